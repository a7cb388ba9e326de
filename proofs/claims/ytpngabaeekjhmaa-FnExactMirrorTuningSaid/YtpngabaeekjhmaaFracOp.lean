/-
  Contracts: lists of fractions, products, quotients and comparisons, on both sides.
-/
import Derived.Test.YtpngabaeekjhmaaMakeF
import Derived.Test.YtpngabaeekjhmaaPair
namespace Go.Proofs.Ytpngabaeekjhmaa
open Go.RowKit

def frAll (ps : List (Int × Int)) : Bool := ps.all fun p => frB p.1 p.2
theorem frAll_take {ps : List (Int × Int)} {k : Nat} (hk : k < ps.length) : frAll (ps.take (k + 1)) = (frAll (ps.take k) && frB (ps.getD k (0, 0)).1 (ps.getD k (0, 0)).2) := by
  have e : ps.getD k (0, 0) = ps[k] := by simp [List.getD, hk]
  rw [e]
  simp only [frAll, List.take_succ_eq_append_getElem hk, List.all_append, List.all_cons, List.all_nil, Bool.and_true]
theorem frAll_false {ps : List (Int × Int)} {k : Nat} (hk : k < ps.length) (h : frB (ps.getD k (0, 0)).1 (ps.getD k (0, 0)).2 = false) : frAll ps = false := by
  have e : ps.getD k (0, 0) = ps[k] := by simp [List.getD, hk]
  rw [e] at h
  rw [← Bool.not_eq_true]
  intro hs
  have := List.all_eq_true.1 hs _ (List.getElem_mem hk)
  simp [h] at this
theorem frAll_at {ps : List (Int × Int)} (h : frAll ps = true) {k : Nat} (hk : k < ps.length) : frB (ps.getD k (0, 0)).1 (ps.getD k (0, 0)).2 = true := by
  have e : ps.getD k (0, 0) = ps[k] := by simp [List.getD, hk]
  rw [e]; exact List.all_eq_true.1 h _ (List.getElem_mem hk)

theorem isFrac_b (n d : Int) (r : Bool) (w : World) (hr : frB n d = r) :
    Calls Try.prog 38 #[.agg #[.int .i64 n, .int .i64 d]] w fun e w' => e = .returned (.bool r) ∧ Below w.heap.size w w' := by
  subst hr
  exact (isFrac_any n d w).mono fun _ _ ⟨he, k, hk⟩ => ⟨he, by rw [hk]; exact below_drewN ((Below.refl _ _).alloc (Nat.le_refl _) _) _⟩
theorem l02Ok_b (n d : Int) (r : Bool) (w : World) (hr : frB n d = r) :
    Calls Try.prog 34 #[.agg #[.int .i64 n, .int .i64 d]] w fun e w' => e = .returned (.bool r) ∧ Below w.heap.size w w' := by
  subst hr
  exact (l02Ok_any n d w).mono fun _ _ ⟨he, k, hk⟩ => ⟨he, by rw [hk]; exact below_drewN ((Below.refl _ _).alloc (Nat.le_refl _) _) _⟩

theorem areFracs_any (v : Value) (ps : List (Int × Int)) (w : World) (h : Pairs w v ps) :
    Calls Try.prog 55 #[v] w fun e w' => e = .returned (.bool (frAll ps)) ∧ Below w.heap.size w w' := by
  obtain ⟨hl, a, cap, rfl, hc⟩ := h
  obtain ⟨R, hR⟩ : ∃ R, R = frAll ps := ⟨_, rfl⟩
  rw [← hR]
  have HR := Lib.hid hR; clear hR
  go_enter Try.func55, Try.ntmps55
  go_wp2
  go_loopw [7] (fun i wr => ∃ k : Nat, k ≤ ps.length ∧ i = .int .i64 k ∧ Hid (frAll (ps.take k) = true) ∧ Below w.heap.size w wr) (fun i _ => ps.length - (intOf i).toNat)
  case atStart => exact ⟨0, Nat.zero_le _, rfl, rfl, Below.refl _ _⟩
  case round =>
    obtain ⟨k, hk, rfl, hs, hbel⟩ := hrel
    by_cases hlt : k < ps.length
    · obtain ⟨b, o, rfl, hcell⟩ := hc (by omega)
      obtain ⟨d1, d2⟩ := hcell k hlt
      have hbb := World.block_lt_of_cell? _ _ d1
      have c1 := (hbel.cell (p := ⟨b, o + k * 2, none⟩) hbb).trans d1
      have c2 := (hbel.cell (p := ⟨b, o + k * 2 + 1, none⟩) hbb).trans d2
      have HT := Lib.hid (frAll_take hlt)
      have HF := Lib.hid (fun h => frAll_false hlt h)
      have hsz := hbel.size
      clear hcell hc d1 d2 hbb
      generalize ps.getD k (0, 0) = x at *
      obtain ⟨x1, x2⟩ := x
      simp only at c1 c2 HT HF
      cases h1 : frB x1 x2
      · go_wp2_with fail
        refine (isFrac_b x1 x2 false _ h1).mono ?_; rintro e w2 ⟨rfl, b2⟩
        have hb2 := (hbel.alloc hsz (.cells #[.int .i64 x1, .int .i64 x2] 29)).trans (b2.mono (by simp; omega))
        clear hbel b2 c1 c2
        go_wp2
        go_ret
        exact ⟨ret_bool (by rw [HR.out, HF.out h1]), hb2⟩
      · go_wp2_with fail
        refine (isFrac_b x1 x2 true _ h1).mono ?_; rintro e w2 ⟨rfl, b2⟩
        have hb2 := (hbel.alloc hsz (.cells #[.int .i64 x1, .int .i64 x2] 29)).trans (b2.mono (by simp; omega))
        clear hbel b2 c1 c2
        go_wp2
        go_roundw
        case rel => exact ⟨k + 1, by omega, by go_num, by unfold Hid; rw [HT.out, hs.out, h1]; rfl, hb2⟩
        case measure => simp [intOf]; omega
    · have hall : frAll ps = true := by have := hs.out; rwa [List.take_of_length_le (by omega)] at this
      have HA := Lib.hid hall
      clear hc hall hs
      go_wp2
      go_ret
      exact ⟨ret_bool (by rw [HR.out, HA.out]), hbel⟩
theorem areFracs_val {ps : List (Int × Int)} {r : Bool} (hr : frAll ps = r) (v : Value) (w : World) (h : Pairs w v ps) :
    Calls Try.prog 55 #[v] w fun e w' => e = .returned (.bool r) ∧ Below w.heap.size w w' := by
  subst hr; exact areFracs_any v ps w h

theorem OwnP.litF (w : World) (a b c d : Int) : OwnP 29 (w.alloc (.cells #[.int .i64 a, .int .i64 b, .int .i64 c, .int .i64 d] 29)) w.heap.size (.slice (some ⟨w.heap.size, 0, none⟩) 2 2) [(a, b), (c, d)] :=
  ⟨by simp, .inr ⟨w.heap.size, 2, _, rfl, Nat.le_refl _, heap_alloc_new w _, Nat.le_refl _, by unfold maxLen; omega, by simp, by simp [flatP]⟩⟩

/-- Product and quotient of fractions. -/
def mulF (a b c d : Int) : (Int × Int) × Int := if frB a b = true ∧ frB c d = true then mkF (a * c) (b * d) else ((0, 0), 1)
def divF (a b c d : Int) : (Int × Int) × Int := if frB a b = true ∧ frB c d = true then (if c = 0 then ((0, 0), 2) else mkF (a * d) (b * c)) else ((0, 0), 1)
/-- The order of two fractions. -/
def cmpF (a b c d : Int) : Int := if a * d < c * b then -1 else if c * b < a * d then 1 else 0

set_option maxHeartbeats 1000000 in
theorem specMul_any (a b c d : Int) (w : World) :
    Calls Try.prog 69 #[.agg #[.int .i64 a, .int .i64 b], .agg #[.int .i64 c, .int .i64 d]] w fun e w' => e = .returned (.tuple #[.agg #[.int .i64 (mulF a b c d).1.1, .int .i64 (mulF a b c d).1.2], .int .i64 (mulF a b c d).2]) ∧ Below w.heap.size w w' := by
  cases h1 : frB a b
  · have B0 : Below w.heap.size w w := Below.refl _ _
    have A1 : Below w.heap.size w (w.alloc (.cells #[.int .i64 a, .int .i64 b] 29)) := (Below.refl _ _).alloc (Nat.le_refl _) _
    have B1 := B0.trans (A1.mono B0.size)
    have xa_1 : BoxU (w.alloc (.cells #[.int .i64 a, .int .i64 b] 29)) (w.heap.size) [.int .i64 a, .int .i64 b] := BoxU.newAt _ _ _ (by rfl)
    clear A1 B0
    have A2 : Below (w.alloc (.cells #[.int .i64 a, .int .i64 b] 29)).heap.size (w.alloc (.cells #[.int .i64 a, .int .i64 b] 29)) ((w.alloc (.cells #[.int .i64 a, .int .i64 b] 29)).alloc (.cells #[.int .i64 c, .int .i64 d] 29)) := (Below.refl _ _).alloc (Nat.le_refl _) _
    have B2 := B1.trans (A2.mono B1.size)
    have xa_2 := xa_1.below A2; clear xa_1
    have xb_2 : BoxU ((w.alloc (.cells #[.int .i64 a, .int .i64 b] 29)).alloc (.cells #[.int .i64 c, .int .i64 d] 29)) (w.heap.size + 1) [.int .i64 c, .int .i64 d] := BoxU.newAt _ _ _ (by simp)
    clear A2 B1
    have A3 : Below ((w.alloc (.cells #[.int .i64 a, .int .i64 b] 29)).alloc (.cells #[.int .i64 c, .int .i64 d] 29)).heap.size ((w.alloc (.cells #[.int .i64 a, .int .i64 b] 29)).alloc (.cells #[.int .i64 c, .int .i64 d] 29)) (((w.alloc (.cells #[.int .i64 a, .int .i64 b] 29)).alloc (.cells #[.int .i64 c, .int .i64 d] 29)).alloc (.cells #[.int .i64 0, .int .i64 0] 29)) := (Below.refl _ _).alloc (Nat.le_refl _) _
    have B3 := B2.trans (A3.mono B2.size)
    have xa_3 := xa_2.below A3; clear xa_2
    have xb_3 := xb_2.below A3; clear xb_2
    have xr_3 : BoxU (((w.alloc (.cells #[.int .i64 a, .int .i64 b] 29)).alloc (.cells #[.int .i64 c, .int .i64 d] 29)).alloc (.cells #[.int .i64 0, .int .i64 0] 29)) (w.heap.size + 1 + 1) [.int .i64 0, .int .i64 0] := BoxU.newAt _ _ _ (by simp)
    clear A3 B2
    go_enter Try.func69, Try.ntmps69
    have ca0 := xa_3.1.at 0 rfl
    have ca1 := xa_3.1.at 1 rfl
    have cb0 := xb_3.1.at 0 rfl
    have cb1 := xb_3.1.at 1 rfl
    go_wp2_with fail
    clear ca0 ca1 cb0 cb1
    refine (l02Ok_b a b false _ h1).mono ?_; rintro e w4 ⟨rfl, b4⟩
    have B4 := B3.trans (b4.mono B3.size)
    have xa_4 := xa_3.below b4; clear xa_3
    have xb_4 := xb_3.below b4; clear xb_3
    have xr_4 := xr_3.below b4; clear xr_3
    clear b4 B3
    have ca0 := xa_4.1.at 0 rfl
    have ca1 := xa_4.1.at 1 rfl
    have cb0 := xb_4.1.at 0 rfl
    have cb1 := xb_4.1.at 1 rfl
    have cr0 := xr_4.1.at 0 rfl
    have cr1 := xr_4.1.at 1 rfl
    have fr0 := xr_4.2 0
    have fr1 := xr_4.2 1
    have HBB := Lib.hid B4; clear B4
    have hsz := HBB.out.size
    go_wp2
    refine bodyPost_ret (v := .tuple #[.agg #[.int .i64 0, .int .i64 0], .int .i64 1]) (by simp [results, Try.results69, go_sem, *]) rfl ⟨by simp [mulF, h1], ?_⟩
    repeat (first | exact HBB.out | refine Below.alloc ?_ (by simp <;> omega) _ | refine Below.setCell ?_ (by simp <;> omega) _ | refine below_drewN ?_ _)
  cases h2 : frB c d
  · have B0 : Below w.heap.size w w := Below.refl _ _
    have A1 : Below w.heap.size w (w.alloc (.cells #[.int .i64 a, .int .i64 b] 29)) := (Below.refl _ _).alloc (Nat.le_refl _) _
    have B1 := B0.trans (A1.mono B0.size)
    have xa_1 : BoxU (w.alloc (.cells #[.int .i64 a, .int .i64 b] 29)) (w.heap.size) [.int .i64 a, .int .i64 b] := BoxU.newAt _ _ _ (by rfl)
    clear A1 B0
    have A2 : Below (w.alloc (.cells #[.int .i64 a, .int .i64 b] 29)).heap.size (w.alloc (.cells #[.int .i64 a, .int .i64 b] 29)) ((w.alloc (.cells #[.int .i64 a, .int .i64 b] 29)).alloc (.cells #[.int .i64 c, .int .i64 d] 29)) := (Below.refl _ _).alloc (Nat.le_refl _) _
    have B2 := B1.trans (A2.mono B1.size)
    have xa_2 := xa_1.below A2; clear xa_1
    have xb_2 : BoxU ((w.alloc (.cells #[.int .i64 a, .int .i64 b] 29)).alloc (.cells #[.int .i64 c, .int .i64 d] 29)) (w.heap.size + 1) [.int .i64 c, .int .i64 d] := BoxU.newAt _ _ _ (by simp)
    clear A2 B1
    have A3 : Below ((w.alloc (.cells #[.int .i64 a, .int .i64 b] 29)).alloc (.cells #[.int .i64 c, .int .i64 d] 29)).heap.size ((w.alloc (.cells #[.int .i64 a, .int .i64 b] 29)).alloc (.cells #[.int .i64 c, .int .i64 d] 29)) (((w.alloc (.cells #[.int .i64 a, .int .i64 b] 29)).alloc (.cells #[.int .i64 c, .int .i64 d] 29)).alloc (.cells #[.int .i64 0, .int .i64 0] 29)) := (Below.refl _ _).alloc (Nat.le_refl _) _
    have B3 := B2.trans (A3.mono B2.size)
    have xa_3 := xa_2.below A3; clear xa_2
    have xb_3 := xb_2.below A3; clear xb_2
    have xr_3 : BoxU (((w.alloc (.cells #[.int .i64 a, .int .i64 b] 29)).alloc (.cells #[.int .i64 c, .int .i64 d] 29)).alloc (.cells #[.int .i64 0, .int .i64 0] 29)) (w.heap.size + 1 + 1) [.int .i64 0, .int .i64 0] := BoxU.newAt _ _ _ (by simp)
    clear A3 B2
    go_enter Try.func69, Try.ntmps69
    have ca0 := xa_3.1.at 0 rfl
    have ca1 := xa_3.1.at 1 rfl
    have cb0 := xb_3.1.at 0 rfl
    have cb1 := xb_3.1.at 1 rfl
    go_wp2_with fail
    clear ca0 ca1 cb0 cb1
    refine (l02Ok_b a b true _ h1).mono ?_; rintro e w4 ⟨rfl, b4⟩
    have B4 := B3.trans (b4.mono B3.size)
    have xa_4 := xa_3.below b4; clear xa_3
    have xb_4 := xb_3.below b4; clear xb_3
    have xr_4 := xr_3.below b4; clear xr_3
    clear b4 B3
    have ca0 := xa_4.1.at 0 rfl
    have ca1 := xa_4.1.at 1 rfl
    have cb0 := xb_4.1.at 0 rfl
    have cb1 := xb_4.1.at 1 rfl
    go_wp2_with fail
    clear ca0 ca1 cb0 cb1
    refine (l02Ok_b c d false _ h2).mono ?_; rintro e w5 ⟨rfl, b5⟩
    have B5 := B4.trans (b5.mono B4.size)
    have xa_5 := xa_4.below b5; clear xa_4
    have xb_5 := xb_4.below b5; clear xb_4
    have xr_5 := xr_4.below b5; clear xr_4
    clear b5 B4
    have ca0 := xa_5.1.at 0 rfl
    have ca1 := xa_5.1.at 1 rfl
    have cb0 := xb_5.1.at 0 rfl
    have cb1 := xb_5.1.at 1 rfl
    have cr0 := xr_5.1.at 0 rfl
    have cr1 := xr_5.1.at 1 rfl
    have fr0 := xr_5.2 0
    have fr1 := xr_5.2 1
    have HBB := Lib.hid B5; clear B5
    have hsz := HBB.out.size
    go_wp2
    refine bodyPost_ret (v := .tuple #[.agg #[.int .i64 0, .int .i64 0], .int .i64 1]) (by simp [results, Try.results69, go_sem, *]) rfl ⟨by simp [mulF, h1, h2], ?_⟩
    repeat (first | exact HBB.out | refine Below.alloc ?_ (by simp <;> omega) _ | refine Below.setCell ?_ (by simp <;> omega) _ | refine below_drewN ?_ _)
  have q1 := frB_bd h1; have q2 := frB_bd h2
  have p1 := mul_abs (a := a) (b := c) (A := 1000000000) (B := 1000000000) (by omega) (by omega)
  have p2 := mul_abs (a := b) (b := d) (A := 1000000) (B := 1000000) (by omega) (by omega)
  have B0 : Below w.heap.size w w := Below.refl _ _
  have A1 : Below w.heap.size w (w.alloc (.cells #[.int .i64 a, .int .i64 b] 29)) := (Below.refl _ _).alloc (Nat.le_refl _) _
  have B1 := B0.trans (A1.mono B0.size)
  have xa_1 : BoxU (w.alloc (.cells #[.int .i64 a, .int .i64 b] 29)) (w.heap.size) [.int .i64 a, .int .i64 b] := BoxU.newAt _ _ _ (by rfl)
  clear A1 B0
  have A2 : Below (w.alloc (.cells #[.int .i64 a, .int .i64 b] 29)).heap.size (w.alloc (.cells #[.int .i64 a, .int .i64 b] 29)) ((w.alloc (.cells #[.int .i64 a, .int .i64 b] 29)).alloc (.cells #[.int .i64 c, .int .i64 d] 29)) := (Below.refl _ _).alloc (Nat.le_refl _) _
  have B2 := B1.trans (A2.mono B1.size)
  have xa_2 := xa_1.below A2; clear xa_1
  have xb_2 : BoxU ((w.alloc (.cells #[.int .i64 a, .int .i64 b] 29)).alloc (.cells #[.int .i64 c, .int .i64 d] 29)) (w.heap.size + 1) [.int .i64 c, .int .i64 d] := BoxU.newAt _ _ _ (by simp)
  clear A2 B1
  have A3 : Below ((w.alloc (.cells #[.int .i64 a, .int .i64 b] 29)).alloc (.cells #[.int .i64 c, .int .i64 d] 29)).heap.size ((w.alloc (.cells #[.int .i64 a, .int .i64 b] 29)).alloc (.cells #[.int .i64 c, .int .i64 d] 29)) (((w.alloc (.cells #[.int .i64 a, .int .i64 b] 29)).alloc (.cells #[.int .i64 c, .int .i64 d] 29)).alloc (.cells #[.int .i64 0, .int .i64 0] 29)) := (Below.refl _ _).alloc (Nat.le_refl _) _
  have B3 := B2.trans (A3.mono B2.size)
  have xa_3 := xa_2.below A3; clear xa_2
  have xb_3 := xb_2.below A3; clear xb_2
  have xr_3 : BoxU (((w.alloc (.cells #[.int .i64 a, .int .i64 b] 29)).alloc (.cells #[.int .i64 c, .int .i64 d] 29)).alloc (.cells #[.int .i64 0, .int .i64 0] 29)) (w.heap.size + 1 + 1) [.int .i64 0, .int .i64 0] := BoxU.newAt _ _ _ (by simp)
  clear A3 B2
  go_enter Try.func69, Try.ntmps69
  have ca0 := xa_3.1.at 0 rfl
  have ca1 := xa_3.1.at 1 rfl
  have cb0 := xb_3.1.at 0 rfl
  have cb1 := xb_3.1.at 1 rfl
  go_wp2_with fail
  clear ca0 ca1 cb0 cb1
  refine (l02Ok_b a b true _ h1).mono ?_; rintro e w4 ⟨rfl, b4⟩
  have B4 := B3.trans (b4.mono B3.size)
  have xa_4 := xa_3.below b4; clear xa_3
  have xb_4 := xb_3.below b4; clear xb_3
  have xr_4 := xr_3.below b4; clear xr_3
  clear b4 B3
  have ca0 := xa_4.1.at 0 rfl
  have ca1 := xa_4.1.at 1 rfl
  have cb0 := xb_4.1.at 0 rfl
  have cb1 := xb_4.1.at 1 rfl
  go_wp2_with fail
  clear ca0 ca1 cb0 cb1
  refine (l02Ok_b c d true _ h2).mono ?_; rintro e w5 ⟨rfl, b5⟩
  have B5 := B4.trans (b5.mono B4.size)
  have xa_5 := xa_4.below b5; clear xa_4
  have xb_5 := xb_4.below b5; clear xb_4
  have xr_5 := xr_4.below b5; clear xr_4
  clear b5 B4
  have ca0 := xa_5.1.at 0 rfl
  have ca1 := xa_5.1.at 1 rfl
  have cb0 := xb_5.1.at 0 rfl
  have cb1 := xb_5.1.at 1 rfl
  go_wp2_with fail
  clear ca0 ca1 cb0 cb1
  refine (specMake_any (a * c) (b * d) _ (by omega) (by omega)).mono ?_; rintro e w6 ⟨rfl, b6⟩
  have B6 := B5.trans (b6.mono B5.size)
  have xa_6 := xa_5.below b6; clear xa_5
  have xb_6 := xb_5.below b6; clear xb_5
  have xr_6 := xr_5.below b6; clear xr_5
  clear b6 B5
  have hE : mulF a b c d = mkF (a * c) (b * d) := by simp [mulF, h1, h2]
  have HE := Lib.hid hE; clear hE
  generalize mkF (a * c) (b * d) = R at *
  obtain ⟨⟨r1, r2⟩, r3⟩ := R
  have ca0 := xa_6.1.at 0 rfl
  have ca1 := xa_6.1.at 1 rfl
  have cb0 := xb_6.1.at 0 rfl
  have cb1 := xb_6.1.at 1 rfl
  have cr0 := xr_6.1.at 0 rfl
  have cr1 := xr_6.1.at 1 rfl
  have fr0 := xr_6.2 0
  have fr1 := xr_6.2 1
  have HBB := Lib.hid B6; clear B6
  have hsz := HBB.out.size
  go_wp2
  refine bodyPost_ret (v := .tuple #[.agg #[.int .i64 r1, .int .i64 r2], .int .i64 r3]) (by simp [results, Try.results69, go_sem, *]) rfl ⟨by rw [HE.out], ?_⟩
  repeat (first | exact HBB.out | refine Below.alloc ?_ (by simp <;> omega) _ | refine Below.setCell ?_ (by simp <;> omega) _ | refine below_drewN ?_ _)

set_option maxHeartbeats 1000000 in
theorem implMul_any (a b c d : Int) (w : World) :
    Calls Try.prog 70 #[.agg #[.int .i64 a, .int .i64 b], .agg #[.int .i64 c, .int .i64 d]] w fun e w' => e = .returned (.tuple #[.agg #[.int .i64 (mulF a b c d).1.1, .int .i64 (mulF a b c d).1.2], .int .i64 (mulF a b c d).2]) ∧ Below w.heap.size w w' := by
  cases h1 : frB a b
  · have B0 : Below w.heap.size w w := Below.refl _ _
    have A1 : Below w.heap.size w (w.alloc (.cells #[.int .i64 a, .int .i64 b] 29)) := (Below.refl _ _).alloc (Nat.le_refl _) _
    have B1 := B0.trans (A1.mono B0.size)
    have xa_1 : BoxU (w.alloc (.cells #[.int .i64 a, .int .i64 b] 29)) (w.heap.size) [.int .i64 a, .int .i64 b] := BoxU.newAt _ _ _ (by rfl)
    clear A1 B0
    have A2 : Below (w.alloc (.cells #[.int .i64 a, .int .i64 b] 29)).heap.size (w.alloc (.cells #[.int .i64 a, .int .i64 b] 29)) ((w.alloc (.cells #[.int .i64 a, .int .i64 b] 29)).alloc (.cells #[.int .i64 c, .int .i64 d] 29)) := (Below.refl _ _).alloc (Nat.le_refl _) _
    have B2 := B1.trans (A2.mono B1.size)
    have xa_2 := xa_1.below A2; clear xa_1
    have xb_2 : BoxU ((w.alloc (.cells #[.int .i64 a, .int .i64 b] 29)).alloc (.cells #[.int .i64 c, .int .i64 d] 29)) (w.heap.size + 1) [.int .i64 c, .int .i64 d] := BoxU.newAt _ _ _ (by simp)
    clear A2 B1
    have A3 : Below ((w.alloc (.cells #[.int .i64 a, .int .i64 b] 29)).alloc (.cells #[.int .i64 c, .int .i64 d] 29)).heap.size ((w.alloc (.cells #[.int .i64 a, .int .i64 b] 29)).alloc (.cells #[.int .i64 c, .int .i64 d] 29)) (((w.alloc (.cells #[.int .i64 a, .int .i64 b] 29)).alloc (.cells #[.int .i64 c, .int .i64 d] 29)).alloc (.cells #[.int .i64 0, .int .i64 0] 29)) := (Below.refl _ _).alloc (Nat.le_refl _) _
    have B3 := B2.trans (A3.mono B2.size)
    have xa_3 := xa_2.below A3; clear xa_2
    have xb_3 := xb_2.below A3; clear xb_2
    have xr_3 : BoxU (((w.alloc (.cells #[.int .i64 a, .int .i64 b] 29)).alloc (.cells #[.int .i64 c, .int .i64 d] 29)).alloc (.cells #[.int .i64 0, .int .i64 0] 29)) (w.heap.size + 1 + 1) [.int .i64 0, .int .i64 0] := BoxU.newAt _ _ _ (by simp)
    clear A3 B2
    have ps : Pairs ((((w.alloc (.cells #[.int .i64 a, .int .i64 b] 29)).alloc (.cells #[.int .i64 c, .int .i64 d] 29)).alloc (.cells #[.int .i64 0, .int .i64 0] 29)).alloc (.cells #[.int .i64 a, .int .i64 b, .int .i64 c, .int .i64 d] 29)) (.slice (some ⟨w.heap.size + 1 + 1 + 1, 0, none⟩) 2 2) [(a, b), (c, d)] := by
      have := OwnP.pairs (OwnP.litF (((w.alloc (.cells #[.int .i64 a, .int .i64 b] 29)).alloc (.cells #[.int .i64 c, .int .i64 d] 29)).alloc (.cells #[.int .i64 0, .int .i64 0] 29)) a b c d) (by simp); simpa using this
    have A4 : Below (((w.alloc (.cells #[.int .i64 a, .int .i64 b] 29)).alloc (.cells #[.int .i64 c, .int .i64 d] 29)).alloc (.cells #[.int .i64 0, .int .i64 0] 29)).heap.size (((w.alloc (.cells #[.int .i64 a, .int .i64 b] 29)).alloc (.cells #[.int .i64 c, .int .i64 d] 29)).alloc (.cells #[.int .i64 0, .int .i64 0] 29)) ((((w.alloc (.cells #[.int .i64 a, .int .i64 b] 29)).alloc (.cells #[.int .i64 c, .int .i64 d] 29)).alloc (.cells #[.int .i64 0, .int .i64 0] 29)).alloc (.cells #[.int .i64 a, .int .i64 b, .int .i64 c, .int .i64 d] 29)) := (Below.refl _ _).alloc (Nat.le_refl _) _
    have B4 := B3.trans (A4.mono B3.size)
    have xa_4 := xa_3.below A4; clear xa_3
    have xb_4 := xb_3.below A4; clear xb_3
    have xr_4 := xr_3.below A4; clear xr_3
    have xs_4 : BoxU ((((w.alloc (.cells #[.int .i64 a, .int .i64 b] 29)).alloc (.cells #[.int .i64 c, .int .i64 d] 29)).alloc (.cells #[.int .i64 0, .int .i64 0] 29)).alloc (.cells #[.int .i64 a, .int .i64 b, .int .i64 c, .int .i64 d] 29)) (w.heap.size + 1 + 1 + 1) [.int .i64 a, .int .i64 b, .int .i64 c, .int .i64 d] := BoxU.newAt _ _ _ (by simp)
    clear A4 B3
    go_enter Try.func70, Try.ntmps70
    have ca0 := xa_4.1.at 0 rfl
    have ca1 := xa_4.1.at 1 rfl
    have cb0 := xb_4.1.at 0 rfl
    have cb1 := xb_4.1.at 1 rfl
    go_wp2_with fail
    clear ca0 ca1 cb0 cb1
    refine (areFracs_val (r := false) (by simp [frAll, h1]) _ _ ps).mono ?_; rintro e w5 ⟨rfl, b5⟩
    have B5 := B4.trans (b5.mono B4.size)
    have xa_5 := xa_4.below b5; clear xa_4
    have xb_5 := xb_4.below b5; clear xb_4
    have xr_5 := xr_4.below b5; clear xr_4
    have xs_5 := xs_4.below b5; clear xs_4
    clear b5 B4
    have ca0 := xa_5.1.at 0 rfl
    have ca1 := xa_5.1.at 1 rfl
    have cb0 := xb_5.1.at 0 rfl
    have cb1 := xb_5.1.at 1 rfl
    have cr0 := xr_5.1.at 0 rfl
    have cr1 := xr_5.1.at 1 rfl
    have fr0 := xr_5.2 0
    have fr1 := xr_5.2 1
    have HBB := Lib.hid B5; clear B5
    have hsz := HBB.out.size
    go_wp2
    refine bodyPost_ret (v := .tuple #[.agg #[.int .i64 0, .int .i64 0], .int .i64 1]) (by simp [results, Try.results70, go_sem, *]) rfl ⟨by simp [mulF, h1], ?_⟩
    repeat (first | exact HBB.out | refine Below.alloc ?_ (by simp <;> omega) _ | refine Below.setCell ?_ (by simp <;> omega) _ | refine below_drewN ?_ _)
  cases h2 : frB c d
  · have B0 : Below w.heap.size w w := Below.refl _ _
    have A1 : Below w.heap.size w (w.alloc (.cells #[.int .i64 a, .int .i64 b] 29)) := (Below.refl _ _).alloc (Nat.le_refl _) _
    have B1 := B0.trans (A1.mono B0.size)
    have xa_1 : BoxU (w.alloc (.cells #[.int .i64 a, .int .i64 b] 29)) (w.heap.size) [.int .i64 a, .int .i64 b] := BoxU.newAt _ _ _ (by rfl)
    clear A1 B0
    have A2 : Below (w.alloc (.cells #[.int .i64 a, .int .i64 b] 29)).heap.size (w.alloc (.cells #[.int .i64 a, .int .i64 b] 29)) ((w.alloc (.cells #[.int .i64 a, .int .i64 b] 29)).alloc (.cells #[.int .i64 c, .int .i64 d] 29)) := (Below.refl _ _).alloc (Nat.le_refl _) _
    have B2 := B1.trans (A2.mono B1.size)
    have xa_2 := xa_1.below A2; clear xa_1
    have xb_2 : BoxU ((w.alloc (.cells #[.int .i64 a, .int .i64 b] 29)).alloc (.cells #[.int .i64 c, .int .i64 d] 29)) (w.heap.size + 1) [.int .i64 c, .int .i64 d] := BoxU.newAt _ _ _ (by simp)
    clear A2 B1
    have A3 : Below ((w.alloc (.cells #[.int .i64 a, .int .i64 b] 29)).alloc (.cells #[.int .i64 c, .int .i64 d] 29)).heap.size ((w.alloc (.cells #[.int .i64 a, .int .i64 b] 29)).alloc (.cells #[.int .i64 c, .int .i64 d] 29)) (((w.alloc (.cells #[.int .i64 a, .int .i64 b] 29)).alloc (.cells #[.int .i64 c, .int .i64 d] 29)).alloc (.cells #[.int .i64 0, .int .i64 0] 29)) := (Below.refl _ _).alloc (Nat.le_refl _) _
    have B3 := B2.trans (A3.mono B2.size)
    have xa_3 := xa_2.below A3; clear xa_2
    have xb_3 := xb_2.below A3; clear xb_2
    have xr_3 : BoxU (((w.alloc (.cells #[.int .i64 a, .int .i64 b] 29)).alloc (.cells #[.int .i64 c, .int .i64 d] 29)).alloc (.cells #[.int .i64 0, .int .i64 0] 29)) (w.heap.size + 1 + 1) [.int .i64 0, .int .i64 0] := BoxU.newAt _ _ _ (by simp)
    clear A3 B2
    have ps : Pairs ((((w.alloc (.cells #[.int .i64 a, .int .i64 b] 29)).alloc (.cells #[.int .i64 c, .int .i64 d] 29)).alloc (.cells #[.int .i64 0, .int .i64 0] 29)).alloc (.cells #[.int .i64 a, .int .i64 b, .int .i64 c, .int .i64 d] 29)) (.slice (some ⟨w.heap.size + 1 + 1 + 1, 0, none⟩) 2 2) [(a, b), (c, d)] := by
      have := OwnP.pairs (OwnP.litF (((w.alloc (.cells #[.int .i64 a, .int .i64 b] 29)).alloc (.cells #[.int .i64 c, .int .i64 d] 29)).alloc (.cells #[.int .i64 0, .int .i64 0] 29)) a b c d) (by simp); simpa using this
    have A4 : Below (((w.alloc (.cells #[.int .i64 a, .int .i64 b] 29)).alloc (.cells #[.int .i64 c, .int .i64 d] 29)).alloc (.cells #[.int .i64 0, .int .i64 0] 29)).heap.size (((w.alloc (.cells #[.int .i64 a, .int .i64 b] 29)).alloc (.cells #[.int .i64 c, .int .i64 d] 29)).alloc (.cells #[.int .i64 0, .int .i64 0] 29)) ((((w.alloc (.cells #[.int .i64 a, .int .i64 b] 29)).alloc (.cells #[.int .i64 c, .int .i64 d] 29)).alloc (.cells #[.int .i64 0, .int .i64 0] 29)).alloc (.cells #[.int .i64 a, .int .i64 b, .int .i64 c, .int .i64 d] 29)) := (Below.refl _ _).alloc (Nat.le_refl _) _
    have B4 := B3.trans (A4.mono B3.size)
    have xa_4 := xa_3.below A4; clear xa_3
    have xb_4 := xb_3.below A4; clear xb_3
    have xr_4 := xr_3.below A4; clear xr_3
    have xs_4 : BoxU ((((w.alloc (.cells #[.int .i64 a, .int .i64 b] 29)).alloc (.cells #[.int .i64 c, .int .i64 d] 29)).alloc (.cells #[.int .i64 0, .int .i64 0] 29)).alloc (.cells #[.int .i64 a, .int .i64 b, .int .i64 c, .int .i64 d] 29)) (w.heap.size + 1 + 1 + 1) [.int .i64 a, .int .i64 b, .int .i64 c, .int .i64 d] := BoxU.newAt _ _ _ (by simp)
    clear A4 B3
    go_enter Try.func70, Try.ntmps70
    have ca0 := xa_4.1.at 0 rfl
    have ca1 := xa_4.1.at 1 rfl
    have cb0 := xb_4.1.at 0 rfl
    have cb1 := xb_4.1.at 1 rfl
    go_wp2_with fail
    clear ca0 ca1 cb0 cb1
    refine (areFracs_val (r := false) (by simp [frAll, h1, h2]) _ _ ps).mono ?_; rintro e w5 ⟨rfl, b5⟩
    have B5 := B4.trans (b5.mono B4.size)
    have xa_5 := xa_4.below b5; clear xa_4
    have xb_5 := xb_4.below b5; clear xb_4
    have xr_5 := xr_4.below b5; clear xr_4
    have xs_5 := xs_4.below b5; clear xs_4
    clear b5 B4
    have ca0 := xa_5.1.at 0 rfl
    have ca1 := xa_5.1.at 1 rfl
    have cb0 := xb_5.1.at 0 rfl
    have cb1 := xb_5.1.at 1 rfl
    have cr0 := xr_5.1.at 0 rfl
    have cr1 := xr_5.1.at 1 rfl
    have fr0 := xr_5.2 0
    have fr1 := xr_5.2 1
    have HBB := Lib.hid B5; clear B5
    have hsz := HBB.out.size
    go_wp2
    refine bodyPost_ret (v := .tuple #[.agg #[.int .i64 0, .int .i64 0], .int .i64 1]) (by simp [results, Try.results70, go_sem, *]) rfl ⟨by simp [mulF, h1, h2], ?_⟩
    repeat (first | exact HBB.out | refine Below.alloc ?_ (by simp <;> omega) _ | refine Below.setCell ?_ (by simp <;> omega) _ | refine below_drewN ?_ _)
  have q1 := frB_bd h1; have q2 := frB_bd h2
  have p1 := mul_abs (a := a) (b := c) (A := 1000000000) (B := 1000000000) (by omega) (by omega)
  have p2 := mul_abs (a := b) (b := d) (A := 1000000) (B := 1000000) (by omega) (by omega)
  have B0 : Below w.heap.size w w := Below.refl _ _
  have A1 : Below w.heap.size w (w.alloc (.cells #[.int .i64 a, .int .i64 b] 29)) := (Below.refl _ _).alloc (Nat.le_refl _) _
  have B1 := B0.trans (A1.mono B0.size)
  have xa_1 : BoxU (w.alloc (.cells #[.int .i64 a, .int .i64 b] 29)) (w.heap.size) [.int .i64 a, .int .i64 b] := BoxU.newAt _ _ _ (by rfl)
  clear A1 B0
  have A2 : Below (w.alloc (.cells #[.int .i64 a, .int .i64 b] 29)).heap.size (w.alloc (.cells #[.int .i64 a, .int .i64 b] 29)) ((w.alloc (.cells #[.int .i64 a, .int .i64 b] 29)).alloc (.cells #[.int .i64 c, .int .i64 d] 29)) := (Below.refl _ _).alloc (Nat.le_refl _) _
  have B2 := B1.trans (A2.mono B1.size)
  have xa_2 := xa_1.below A2; clear xa_1
  have xb_2 : BoxU ((w.alloc (.cells #[.int .i64 a, .int .i64 b] 29)).alloc (.cells #[.int .i64 c, .int .i64 d] 29)) (w.heap.size + 1) [.int .i64 c, .int .i64 d] := BoxU.newAt _ _ _ (by simp)
  clear A2 B1
  have A3 : Below ((w.alloc (.cells #[.int .i64 a, .int .i64 b] 29)).alloc (.cells #[.int .i64 c, .int .i64 d] 29)).heap.size ((w.alloc (.cells #[.int .i64 a, .int .i64 b] 29)).alloc (.cells #[.int .i64 c, .int .i64 d] 29)) (((w.alloc (.cells #[.int .i64 a, .int .i64 b] 29)).alloc (.cells #[.int .i64 c, .int .i64 d] 29)).alloc (.cells #[.int .i64 0, .int .i64 0] 29)) := (Below.refl _ _).alloc (Nat.le_refl _) _
  have B3 := B2.trans (A3.mono B2.size)
  have xa_3 := xa_2.below A3; clear xa_2
  have xb_3 := xb_2.below A3; clear xb_2
  have xr_3 : BoxU (((w.alloc (.cells #[.int .i64 a, .int .i64 b] 29)).alloc (.cells #[.int .i64 c, .int .i64 d] 29)).alloc (.cells #[.int .i64 0, .int .i64 0] 29)) (w.heap.size + 1 + 1) [.int .i64 0, .int .i64 0] := BoxU.newAt _ _ _ (by simp)
  clear A3 B2
  have ps : Pairs ((((w.alloc (.cells #[.int .i64 a, .int .i64 b] 29)).alloc (.cells #[.int .i64 c, .int .i64 d] 29)).alloc (.cells #[.int .i64 0, .int .i64 0] 29)).alloc (.cells #[.int .i64 a, .int .i64 b, .int .i64 c, .int .i64 d] 29)) (.slice (some ⟨w.heap.size + 1 + 1 + 1, 0, none⟩) 2 2) [(a, b), (c, d)] := by
    have := OwnP.pairs (OwnP.litF (((w.alloc (.cells #[.int .i64 a, .int .i64 b] 29)).alloc (.cells #[.int .i64 c, .int .i64 d] 29)).alloc (.cells #[.int .i64 0, .int .i64 0] 29)) a b c d) (by simp); simpa using this
  have A4 : Below (((w.alloc (.cells #[.int .i64 a, .int .i64 b] 29)).alloc (.cells #[.int .i64 c, .int .i64 d] 29)).alloc (.cells #[.int .i64 0, .int .i64 0] 29)).heap.size (((w.alloc (.cells #[.int .i64 a, .int .i64 b] 29)).alloc (.cells #[.int .i64 c, .int .i64 d] 29)).alloc (.cells #[.int .i64 0, .int .i64 0] 29)) ((((w.alloc (.cells #[.int .i64 a, .int .i64 b] 29)).alloc (.cells #[.int .i64 c, .int .i64 d] 29)).alloc (.cells #[.int .i64 0, .int .i64 0] 29)).alloc (.cells #[.int .i64 a, .int .i64 b, .int .i64 c, .int .i64 d] 29)) := (Below.refl _ _).alloc (Nat.le_refl _) _
  have B4 := B3.trans (A4.mono B3.size)
  have xa_4 := xa_3.below A4; clear xa_3
  have xb_4 := xb_3.below A4; clear xb_3
  have xr_4 := xr_3.below A4; clear xr_3
  have xs_4 : BoxU ((((w.alloc (.cells #[.int .i64 a, .int .i64 b] 29)).alloc (.cells #[.int .i64 c, .int .i64 d] 29)).alloc (.cells #[.int .i64 0, .int .i64 0] 29)).alloc (.cells #[.int .i64 a, .int .i64 b, .int .i64 c, .int .i64 d] 29)) (w.heap.size + 1 + 1 + 1) [.int .i64 a, .int .i64 b, .int .i64 c, .int .i64 d] := BoxU.newAt _ _ _ (by simp)
  clear A4 B3
  go_enter Try.func70, Try.ntmps70
  have ca0 := xa_4.1.at 0 rfl
  have ca1 := xa_4.1.at 1 rfl
  have cb0 := xb_4.1.at 0 rfl
  have cb1 := xb_4.1.at 1 rfl
  go_wp2_with fail
  clear ca0 ca1 cb0 cb1
  refine (areFracs_val (r := true) (by simp [frAll, h1, h2]) _ _ ps).mono ?_; rintro e w5 ⟨rfl, b5⟩
  have B5 := B4.trans (b5.mono B4.size)
  have xa_5 := xa_4.below b5; clear xa_4
  have xb_5 := xb_4.below b5; clear xb_4
  have xr_5 := xr_4.below b5; clear xr_4
  have xs_5 := xs_4.below b5; clear xs_4
  clear b5 B4
  have ca0 := xa_5.1.at 0 rfl
  have ca1 := xa_5.1.at 1 rfl
  have cb0 := xb_5.1.at 0 rfl
  have cb1 := xb_5.1.at 1 rfl
  go_wp2_with fail
  clear ca0 ca1 cb0 cb1
  refine (implMake_any (a * c) (b * d) _ (by omega) (by omega)).mono ?_; rintro e w6 ⟨rfl, b6⟩
  have B6 := B5.trans (b6.mono B5.size)
  have xa_6 := xa_5.below b6; clear xa_5
  have xb_6 := xb_5.below b6; clear xb_5
  have xr_6 := xr_5.below b6; clear xr_5
  have xs_6 := xs_5.below b6; clear xs_5
  clear b6 B5
  have hE : mulF a b c d = mkF (a * c) (b * d) := by simp [mulF, h1, h2]
  have HE := Lib.hid hE; clear hE
  generalize mkF (a * c) (b * d) = R at *
  obtain ⟨⟨r1, r2⟩, r3⟩ := R
  have ca0 := xa_6.1.at 0 rfl
  have ca1 := xa_6.1.at 1 rfl
  have cb0 := xb_6.1.at 0 rfl
  have cb1 := xb_6.1.at 1 rfl
  have cr0 := xr_6.1.at 0 rfl
  have cr1 := xr_6.1.at 1 rfl
  have fr0 := xr_6.2 0
  have fr1 := xr_6.2 1
  have HBB := Lib.hid B6; clear B6
  have hsz := HBB.out.size
  go_wp2
  refine bodyPost_ret (v := .tuple #[.agg #[.int .i64 r1, .int .i64 r2], .int .i64 r3]) (by simp [results, Try.results70, go_sem, *]) rfl ⟨by rw [HE.out], ?_⟩
  repeat (first | exact HBB.out | refine Below.alloc ?_ (by simp <;> omega) _ | refine Below.setCell ?_ (by simp <;> omega) _ | refine below_drewN ?_ _)

set_option maxHeartbeats 1000000 in
theorem specDiv_any (a b c d : Int) (w : World) :
    Calls Try.prog 49 #[.agg #[.int .i64 a, .int .i64 b], .agg #[.int .i64 c, .int .i64 d]] w fun e w' => e = .returned (.tuple #[.agg #[.int .i64 (divF a b c d).1.1, .int .i64 (divF a b c d).1.2], .int .i64 (divF a b c d).2]) ∧ Below w.heap.size w w' := by
  cases h1 : frB a b
  · have B0 : Below w.heap.size w w := Below.refl _ _
    have A1 : Below w.heap.size w (w.alloc (.cells #[.int .i64 a, .int .i64 b] 29)) := (Below.refl _ _).alloc (Nat.le_refl _) _
    have B1 := B0.trans (A1.mono B0.size)
    have xa_1 : BoxU (w.alloc (.cells #[.int .i64 a, .int .i64 b] 29)) (w.heap.size) [.int .i64 a, .int .i64 b] := BoxU.newAt _ _ _ (by rfl)
    clear A1 B0
    have A2 : Below (w.alloc (.cells #[.int .i64 a, .int .i64 b] 29)).heap.size (w.alloc (.cells #[.int .i64 a, .int .i64 b] 29)) ((w.alloc (.cells #[.int .i64 a, .int .i64 b] 29)).alloc (.cells #[.int .i64 c, .int .i64 d] 29)) := (Below.refl _ _).alloc (Nat.le_refl _) _
    have B2 := B1.trans (A2.mono B1.size)
    have xa_2 := xa_1.below A2; clear xa_1
    have xb_2 : BoxU ((w.alloc (.cells #[.int .i64 a, .int .i64 b] 29)).alloc (.cells #[.int .i64 c, .int .i64 d] 29)) (w.heap.size + 1) [.int .i64 c, .int .i64 d] := BoxU.newAt _ _ _ (by simp)
    clear A2 B1
    have A3 : Below ((w.alloc (.cells #[.int .i64 a, .int .i64 b] 29)).alloc (.cells #[.int .i64 c, .int .i64 d] 29)).heap.size ((w.alloc (.cells #[.int .i64 a, .int .i64 b] 29)).alloc (.cells #[.int .i64 c, .int .i64 d] 29)) (((w.alloc (.cells #[.int .i64 a, .int .i64 b] 29)).alloc (.cells #[.int .i64 c, .int .i64 d] 29)).alloc (.cells #[.int .i64 0, .int .i64 0] 29)) := (Below.refl _ _).alloc (Nat.le_refl _) _
    have B3 := B2.trans (A3.mono B2.size)
    have xa_3 := xa_2.below A3; clear xa_2
    have xb_3 := xb_2.below A3; clear xb_2
    have xr_3 : BoxU (((w.alloc (.cells #[.int .i64 a, .int .i64 b] 29)).alloc (.cells #[.int .i64 c, .int .i64 d] 29)).alloc (.cells #[.int .i64 0, .int .i64 0] 29)) (w.heap.size + 1 + 1) [.int .i64 0, .int .i64 0] := BoxU.newAt _ _ _ (by simp)
    clear A3 B2
    go_enter Try.func49, Try.ntmps49
    have ca0 := xa_3.1.at 0 rfl
    have ca1 := xa_3.1.at 1 rfl
    have cb0 := xb_3.1.at 0 rfl
    have cb1 := xb_3.1.at 1 rfl
    go_wp2_with fail
    clear ca0 ca1 cb0 cb1
    refine (l02Ok_b a b false _ h1).mono ?_; rintro e w4 ⟨rfl, b4⟩
    have B4 := B3.trans (b4.mono B3.size)
    have xa_4 := xa_3.below b4; clear xa_3
    have xb_4 := xb_3.below b4; clear xb_3
    have xr_4 := xr_3.below b4; clear xr_3
    clear b4 B3
    have ca0 := xa_4.1.at 0 rfl
    have ca1 := xa_4.1.at 1 rfl
    have cb0 := xb_4.1.at 0 rfl
    have cb1 := xb_4.1.at 1 rfl
    have cr0 := xr_4.1.at 0 rfl
    have cr1 := xr_4.1.at 1 rfl
    have fr0 := xr_4.2 0
    have fr1 := xr_4.2 1
    have HBB := Lib.hid B4; clear B4
    have hsz := HBB.out.size
    go_wp2
    refine bodyPost_ret (v := .tuple #[.agg #[.int .i64 0, .int .i64 0], .int .i64 1]) (by simp [results, Try.results49, go_sem, *]) rfl ⟨by simp [divF, h1], ?_⟩
    repeat (first | exact HBB.out | refine Below.alloc ?_ (by simp <;> omega) _ | refine Below.setCell ?_ (by simp <;> omega) _ | refine below_drewN ?_ _)
  cases h2 : frB c d
  · have B0 : Below w.heap.size w w := Below.refl _ _
    have A1 : Below w.heap.size w (w.alloc (.cells #[.int .i64 a, .int .i64 b] 29)) := (Below.refl _ _).alloc (Nat.le_refl _) _
    have B1 := B0.trans (A1.mono B0.size)
    have xa_1 : BoxU (w.alloc (.cells #[.int .i64 a, .int .i64 b] 29)) (w.heap.size) [.int .i64 a, .int .i64 b] := BoxU.newAt _ _ _ (by rfl)
    clear A1 B0
    have A2 : Below (w.alloc (.cells #[.int .i64 a, .int .i64 b] 29)).heap.size (w.alloc (.cells #[.int .i64 a, .int .i64 b] 29)) ((w.alloc (.cells #[.int .i64 a, .int .i64 b] 29)).alloc (.cells #[.int .i64 c, .int .i64 d] 29)) := (Below.refl _ _).alloc (Nat.le_refl _) _
    have B2 := B1.trans (A2.mono B1.size)
    have xa_2 := xa_1.below A2; clear xa_1
    have xb_2 : BoxU ((w.alloc (.cells #[.int .i64 a, .int .i64 b] 29)).alloc (.cells #[.int .i64 c, .int .i64 d] 29)) (w.heap.size + 1) [.int .i64 c, .int .i64 d] := BoxU.newAt _ _ _ (by simp)
    clear A2 B1
    have A3 : Below ((w.alloc (.cells #[.int .i64 a, .int .i64 b] 29)).alloc (.cells #[.int .i64 c, .int .i64 d] 29)).heap.size ((w.alloc (.cells #[.int .i64 a, .int .i64 b] 29)).alloc (.cells #[.int .i64 c, .int .i64 d] 29)) (((w.alloc (.cells #[.int .i64 a, .int .i64 b] 29)).alloc (.cells #[.int .i64 c, .int .i64 d] 29)).alloc (.cells #[.int .i64 0, .int .i64 0] 29)) := (Below.refl _ _).alloc (Nat.le_refl _) _
    have B3 := B2.trans (A3.mono B2.size)
    have xa_3 := xa_2.below A3; clear xa_2
    have xb_3 := xb_2.below A3; clear xb_2
    have xr_3 : BoxU (((w.alloc (.cells #[.int .i64 a, .int .i64 b] 29)).alloc (.cells #[.int .i64 c, .int .i64 d] 29)).alloc (.cells #[.int .i64 0, .int .i64 0] 29)) (w.heap.size + 1 + 1) [.int .i64 0, .int .i64 0] := BoxU.newAt _ _ _ (by simp)
    clear A3 B2
    go_enter Try.func49, Try.ntmps49
    have ca0 := xa_3.1.at 0 rfl
    have ca1 := xa_3.1.at 1 rfl
    have cb0 := xb_3.1.at 0 rfl
    have cb1 := xb_3.1.at 1 rfl
    go_wp2_with fail
    clear ca0 ca1 cb0 cb1
    refine (l02Ok_b a b true _ h1).mono ?_; rintro e w4 ⟨rfl, b4⟩
    have B4 := B3.trans (b4.mono B3.size)
    have xa_4 := xa_3.below b4; clear xa_3
    have xb_4 := xb_3.below b4; clear xb_3
    have xr_4 := xr_3.below b4; clear xr_3
    clear b4 B3
    have ca0 := xa_4.1.at 0 rfl
    have ca1 := xa_4.1.at 1 rfl
    have cb0 := xb_4.1.at 0 rfl
    have cb1 := xb_4.1.at 1 rfl
    go_wp2_with fail
    clear ca0 ca1 cb0 cb1
    refine (l02Ok_b c d false _ h2).mono ?_; rintro e w5 ⟨rfl, b5⟩
    have B5 := B4.trans (b5.mono B4.size)
    have xa_5 := xa_4.below b5; clear xa_4
    have xb_5 := xb_4.below b5; clear xb_4
    have xr_5 := xr_4.below b5; clear xr_4
    clear b5 B4
    have ca0 := xa_5.1.at 0 rfl
    have ca1 := xa_5.1.at 1 rfl
    have cb0 := xb_5.1.at 0 rfl
    have cb1 := xb_5.1.at 1 rfl
    have cr0 := xr_5.1.at 0 rfl
    have cr1 := xr_5.1.at 1 rfl
    have fr0 := xr_5.2 0
    have fr1 := xr_5.2 1
    have HBB := Lib.hid B5; clear B5
    have hsz := HBB.out.size
    go_wp2
    refine bodyPost_ret (v := .tuple #[.agg #[.int .i64 0, .int .i64 0], .int .i64 1]) (by simp [results, Try.results49, go_sem, *]) rfl ⟨by simp [divF, h1, h2], ?_⟩
    repeat (first | exact HBB.out | refine Below.alloc ?_ (by simp <;> omega) _ | refine Below.setCell ?_ (by simp <;> omega) _ | refine below_drewN ?_ _)
  have q1 := frB_bd h1; have q2 := frB_bd h2
  by_cases h3 : c = 0
  · have hc0 : (c == 0) = true := by simp [h3]
    have HZ := Lib.hid (show divF a b c d = ((0, 0), 2) by unfold divF; rw [if_pos ⟨h1, h2⟩, if_pos h3])
    clear h3
    have B0 : Below w.heap.size w w := Below.refl _ _
    have A1 : Below w.heap.size w (w.alloc (.cells #[.int .i64 a, .int .i64 b] 29)) := (Below.refl _ _).alloc (Nat.le_refl _) _
    have B1 := B0.trans (A1.mono B0.size)
    have xa_1 : BoxU (w.alloc (.cells #[.int .i64 a, .int .i64 b] 29)) (w.heap.size) [.int .i64 a, .int .i64 b] := BoxU.newAt _ _ _ (by rfl)
    clear A1 B0
    have A2 : Below (w.alloc (.cells #[.int .i64 a, .int .i64 b] 29)).heap.size (w.alloc (.cells #[.int .i64 a, .int .i64 b] 29)) ((w.alloc (.cells #[.int .i64 a, .int .i64 b] 29)).alloc (.cells #[.int .i64 c, .int .i64 d] 29)) := (Below.refl _ _).alloc (Nat.le_refl _) _
    have B2 := B1.trans (A2.mono B1.size)
    have xa_2 := xa_1.below A2; clear xa_1
    have xb_2 : BoxU ((w.alloc (.cells #[.int .i64 a, .int .i64 b] 29)).alloc (.cells #[.int .i64 c, .int .i64 d] 29)) (w.heap.size + 1) [.int .i64 c, .int .i64 d] := BoxU.newAt _ _ _ (by simp)
    clear A2 B1
    have A3 : Below ((w.alloc (.cells #[.int .i64 a, .int .i64 b] 29)).alloc (.cells #[.int .i64 c, .int .i64 d] 29)).heap.size ((w.alloc (.cells #[.int .i64 a, .int .i64 b] 29)).alloc (.cells #[.int .i64 c, .int .i64 d] 29)) (((w.alloc (.cells #[.int .i64 a, .int .i64 b] 29)).alloc (.cells #[.int .i64 c, .int .i64 d] 29)).alloc (.cells #[.int .i64 0, .int .i64 0] 29)) := (Below.refl _ _).alloc (Nat.le_refl _) _
    have B3 := B2.trans (A3.mono B2.size)
    have xa_3 := xa_2.below A3; clear xa_2
    have xb_3 := xb_2.below A3; clear xb_2
    have xr_3 : BoxU (((w.alloc (.cells #[.int .i64 a, .int .i64 b] 29)).alloc (.cells #[.int .i64 c, .int .i64 d] 29)).alloc (.cells #[.int .i64 0, .int .i64 0] 29)) (w.heap.size + 1 + 1) [.int .i64 0, .int .i64 0] := BoxU.newAt _ _ _ (by simp)
    clear A3 B2
    go_enter Try.func49, Try.ntmps49
    have ca0 := xa_3.1.at 0 rfl
    have ca1 := xa_3.1.at 1 rfl
    have cb0 := xb_3.1.at 0 rfl
    have cb1 := xb_3.1.at 1 rfl
    go_wp2_with fail
    clear ca0 ca1 cb0 cb1
    refine (l02Ok_b a b true _ h1).mono ?_; rintro e w4 ⟨rfl, b4⟩
    have B4 := B3.trans (b4.mono B3.size)
    have xa_4 := xa_3.below b4; clear xa_3
    have xb_4 := xb_3.below b4; clear xb_3
    have xr_4 := xr_3.below b4; clear xr_3
    clear b4 B3
    have ca0 := xa_4.1.at 0 rfl
    have ca1 := xa_4.1.at 1 rfl
    have cb0 := xb_4.1.at 0 rfl
    have cb1 := xb_4.1.at 1 rfl
    go_wp2_with fail
    clear ca0 ca1 cb0 cb1
    refine (l02Ok_b c d true _ h2).mono ?_; rintro e w5 ⟨rfl, b5⟩
    have B5 := B4.trans (b5.mono B4.size)
    have xa_5 := xa_4.below b5; clear xa_4
    have xb_5 := xb_4.below b5; clear xb_4
    have xr_5 := xr_4.below b5; clear xr_4
    clear b5 B4
    have ca0 := xa_5.1.at 0 rfl
    have ca1 := xa_5.1.at 1 rfl
    have cb0 := xb_5.1.at 0 rfl
    have cb1 := xb_5.1.at 1 rfl
    have cr0 := xr_5.1.at 0 rfl
    have cr1 := xr_5.1.at 1 rfl
    have fr0 := xr_5.2 0
    have fr1 := xr_5.2 1
    have HBB := Lib.hid B5; clear B5
    have hsz := HBB.out.size
    go_wp2
    refine bodyPost_ret (v := .tuple #[.agg #[.int .i64 0, .int .i64 0], .int .i64 2]) (by simp [results, Try.results49, go_sem, *]) rfl ⟨by rw [HZ.out], ?_⟩
    repeat (first | exact HBB.out | refine Below.alloc ?_ (by simp <;> omega) _ | refine Below.setCell ?_ (by simp <;> omega) _ | refine below_drewN ?_ _)
  have h3' : (c == 0) = false := by simpa using h3
  have p1 := mul_abs (a := a) (b := d) (A := 1000000000) (B := 1000000) (by omega) (by omega)
  have p2 := mul_abs (a := b) (b := c) (A := 1000000) (B := 1000000000) (by omega) (by omega)
  have B0 : Below w.heap.size w w := Below.refl _ _
  have A1 : Below w.heap.size w (w.alloc (.cells #[.int .i64 a, .int .i64 b] 29)) := (Below.refl _ _).alloc (Nat.le_refl _) _
  have B1 := B0.trans (A1.mono B0.size)
  have xa_1 : BoxU (w.alloc (.cells #[.int .i64 a, .int .i64 b] 29)) (w.heap.size) [.int .i64 a, .int .i64 b] := BoxU.newAt _ _ _ (by rfl)
  clear A1 B0
  have A2 : Below (w.alloc (.cells #[.int .i64 a, .int .i64 b] 29)).heap.size (w.alloc (.cells #[.int .i64 a, .int .i64 b] 29)) ((w.alloc (.cells #[.int .i64 a, .int .i64 b] 29)).alloc (.cells #[.int .i64 c, .int .i64 d] 29)) := (Below.refl _ _).alloc (Nat.le_refl _) _
  have B2 := B1.trans (A2.mono B1.size)
  have xa_2 := xa_1.below A2; clear xa_1
  have xb_2 : BoxU ((w.alloc (.cells #[.int .i64 a, .int .i64 b] 29)).alloc (.cells #[.int .i64 c, .int .i64 d] 29)) (w.heap.size + 1) [.int .i64 c, .int .i64 d] := BoxU.newAt _ _ _ (by simp)
  clear A2 B1
  have A3 : Below ((w.alloc (.cells #[.int .i64 a, .int .i64 b] 29)).alloc (.cells #[.int .i64 c, .int .i64 d] 29)).heap.size ((w.alloc (.cells #[.int .i64 a, .int .i64 b] 29)).alloc (.cells #[.int .i64 c, .int .i64 d] 29)) (((w.alloc (.cells #[.int .i64 a, .int .i64 b] 29)).alloc (.cells #[.int .i64 c, .int .i64 d] 29)).alloc (.cells #[.int .i64 0, .int .i64 0] 29)) := (Below.refl _ _).alloc (Nat.le_refl _) _
  have B3 := B2.trans (A3.mono B2.size)
  have xa_3 := xa_2.below A3; clear xa_2
  have xb_3 := xb_2.below A3; clear xb_2
  have xr_3 : BoxU (((w.alloc (.cells #[.int .i64 a, .int .i64 b] 29)).alloc (.cells #[.int .i64 c, .int .i64 d] 29)).alloc (.cells #[.int .i64 0, .int .i64 0] 29)) (w.heap.size + 1 + 1) [.int .i64 0, .int .i64 0] := BoxU.newAt _ _ _ (by simp)
  clear A3 B2
  go_enter Try.func49, Try.ntmps49
  have ca0 := xa_3.1.at 0 rfl
  have ca1 := xa_3.1.at 1 rfl
  have cb0 := xb_3.1.at 0 rfl
  have cb1 := xb_3.1.at 1 rfl
  go_wp2_with fail
  clear ca0 ca1 cb0 cb1
  refine (l02Ok_b a b true _ h1).mono ?_; rintro e w4 ⟨rfl, b4⟩
  have B4 := B3.trans (b4.mono B3.size)
  have xa_4 := xa_3.below b4; clear xa_3
  have xb_4 := xb_3.below b4; clear xb_3
  have xr_4 := xr_3.below b4; clear xr_3
  clear b4 B3
  have ca0 := xa_4.1.at 0 rfl
  have ca1 := xa_4.1.at 1 rfl
  have cb0 := xb_4.1.at 0 rfl
  have cb1 := xb_4.1.at 1 rfl
  go_wp2_with fail
  clear ca0 ca1 cb0 cb1
  refine (l02Ok_b c d true _ h2).mono ?_; rintro e w5 ⟨rfl, b5⟩
  have B5 := B4.trans (b5.mono B4.size)
  have xa_5 := xa_4.below b5; clear xa_4
  have xb_5 := xb_4.below b5; clear xb_4
  have xr_5 := xr_4.below b5; clear xr_4
  clear b5 B4
  have ca0 := xa_5.1.at 0 rfl
  have ca1 := xa_5.1.at 1 rfl
  have cb0 := xb_5.1.at 0 rfl
  have cb1 := xb_5.1.at 1 rfl
  go_wp2_with fail
  clear ca0 ca1 cb0 cb1
  refine (specMake_any (a * d) (b * c) _ (by omega) (by omega)).mono ?_; rintro e w6 ⟨rfl, b6⟩
  have B6 := B5.trans (b6.mono B5.size)
  have xa_6 := xa_5.below b6; clear xa_5
  have xb_6 := xb_5.below b6; clear xb_5
  have xr_6 := xr_5.below b6; clear xr_5
  clear b6 B5
  have hE : divF a b c d = mkF (a * d) (b * c) := by simp [divF, h1, h2, h3]
  have HE := Lib.hid hE; clear hE
  generalize mkF (a * d) (b * c) = R at *
  obtain ⟨⟨r1, r2⟩, r3⟩ := R
  have ca0 := xa_6.1.at 0 rfl
  have ca1 := xa_6.1.at 1 rfl
  have cb0 := xb_6.1.at 0 rfl
  have cb1 := xb_6.1.at 1 rfl
  have cr0 := xr_6.1.at 0 rfl
  have cr1 := xr_6.1.at 1 rfl
  have fr0 := xr_6.2 0
  have fr1 := xr_6.2 1
  have HBB := Lib.hid B6; clear B6
  have hsz := HBB.out.size
  go_wp2
  refine bodyPost_ret (v := .tuple #[.agg #[.int .i64 r1, .int .i64 r2], .int .i64 r3]) (by simp [results, Try.results49, go_sem, *]) rfl ⟨by rw [HE.out], ?_⟩
  repeat (first | exact HBB.out | refine Below.alloc ?_ (by simp <;> omega) _ | refine Below.setCell ?_ (by simp <;> omega) _ | refine below_drewN ?_ _)

set_option maxHeartbeats 1000000 in
theorem implDiv_any (a b c d : Int) (w : World) :
    Calls Try.prog 51 #[.agg #[.int .i64 a, .int .i64 b], .agg #[.int .i64 c, .int .i64 d]] w fun e w' => e = .returned (.tuple #[.agg #[.int .i64 (divF a b c d).1.1, .int .i64 (divF a b c d).1.2], .int .i64 (divF a b c d).2]) ∧ Below w.heap.size w w' := by
  cases h1 : frB a b
  · have B0 : Below w.heap.size w w := Below.refl _ _
    have A1 : Below w.heap.size w (w.alloc (.cells #[.int .i64 a, .int .i64 b] 29)) := (Below.refl _ _).alloc (Nat.le_refl _) _
    have B1 := B0.trans (A1.mono B0.size)
    have xa_1 : BoxU (w.alloc (.cells #[.int .i64 a, .int .i64 b] 29)) (w.heap.size) [.int .i64 a, .int .i64 b] := BoxU.newAt _ _ _ (by rfl)
    clear A1 B0
    have A2 : Below (w.alloc (.cells #[.int .i64 a, .int .i64 b] 29)).heap.size (w.alloc (.cells #[.int .i64 a, .int .i64 b] 29)) ((w.alloc (.cells #[.int .i64 a, .int .i64 b] 29)).alloc (.cells #[.int .i64 c, .int .i64 d] 29)) := (Below.refl _ _).alloc (Nat.le_refl _) _
    have B2 := B1.trans (A2.mono B1.size)
    have xa_2 := xa_1.below A2; clear xa_1
    have xb_2 : BoxU ((w.alloc (.cells #[.int .i64 a, .int .i64 b] 29)).alloc (.cells #[.int .i64 c, .int .i64 d] 29)) (w.heap.size + 1) [.int .i64 c, .int .i64 d] := BoxU.newAt _ _ _ (by simp)
    clear A2 B1
    have A3 : Below ((w.alloc (.cells #[.int .i64 a, .int .i64 b] 29)).alloc (.cells #[.int .i64 c, .int .i64 d] 29)).heap.size ((w.alloc (.cells #[.int .i64 a, .int .i64 b] 29)).alloc (.cells #[.int .i64 c, .int .i64 d] 29)) (((w.alloc (.cells #[.int .i64 a, .int .i64 b] 29)).alloc (.cells #[.int .i64 c, .int .i64 d] 29)).alloc (.cells #[.int .i64 0, .int .i64 0] 29)) := (Below.refl _ _).alloc (Nat.le_refl _) _
    have B3 := B2.trans (A3.mono B2.size)
    have xa_3 := xa_2.below A3; clear xa_2
    have xb_3 := xb_2.below A3; clear xb_2
    have xr_3 : BoxU (((w.alloc (.cells #[.int .i64 a, .int .i64 b] 29)).alloc (.cells #[.int .i64 c, .int .i64 d] 29)).alloc (.cells #[.int .i64 0, .int .i64 0] 29)) (w.heap.size + 1 + 1) [.int .i64 0, .int .i64 0] := BoxU.newAt _ _ _ (by simp)
    clear A3 B2
    have ps : Pairs ((((w.alloc (.cells #[.int .i64 a, .int .i64 b] 29)).alloc (.cells #[.int .i64 c, .int .i64 d] 29)).alloc (.cells #[.int .i64 0, .int .i64 0] 29)).alloc (.cells #[.int .i64 a, .int .i64 b, .int .i64 c, .int .i64 d] 29)) (.slice (some ⟨w.heap.size + 1 + 1 + 1, 0, none⟩) 2 2) [(a, b), (c, d)] := by
      have := OwnP.pairs (OwnP.litF (((w.alloc (.cells #[.int .i64 a, .int .i64 b] 29)).alloc (.cells #[.int .i64 c, .int .i64 d] 29)).alloc (.cells #[.int .i64 0, .int .i64 0] 29)) a b c d) (by simp); simpa using this
    have A4 : Below (((w.alloc (.cells #[.int .i64 a, .int .i64 b] 29)).alloc (.cells #[.int .i64 c, .int .i64 d] 29)).alloc (.cells #[.int .i64 0, .int .i64 0] 29)).heap.size (((w.alloc (.cells #[.int .i64 a, .int .i64 b] 29)).alloc (.cells #[.int .i64 c, .int .i64 d] 29)).alloc (.cells #[.int .i64 0, .int .i64 0] 29)) ((((w.alloc (.cells #[.int .i64 a, .int .i64 b] 29)).alloc (.cells #[.int .i64 c, .int .i64 d] 29)).alloc (.cells #[.int .i64 0, .int .i64 0] 29)).alloc (.cells #[.int .i64 a, .int .i64 b, .int .i64 c, .int .i64 d] 29)) := (Below.refl _ _).alloc (Nat.le_refl _) _
    have B4 := B3.trans (A4.mono B3.size)
    have xa_4 := xa_3.below A4; clear xa_3
    have xb_4 := xb_3.below A4; clear xb_3
    have xr_4 := xr_3.below A4; clear xr_3
    have xs_4 : BoxU ((((w.alloc (.cells #[.int .i64 a, .int .i64 b] 29)).alloc (.cells #[.int .i64 c, .int .i64 d] 29)).alloc (.cells #[.int .i64 0, .int .i64 0] 29)).alloc (.cells #[.int .i64 a, .int .i64 b, .int .i64 c, .int .i64 d] 29)) (w.heap.size + 1 + 1 + 1) [.int .i64 a, .int .i64 b, .int .i64 c, .int .i64 d] := BoxU.newAt _ _ _ (by simp)
    clear A4 B3
    go_enter Try.func51, Try.ntmps51
    have ca0 := xa_4.1.at 0 rfl
    have ca1 := xa_4.1.at 1 rfl
    have cb0 := xb_4.1.at 0 rfl
    have cb1 := xb_4.1.at 1 rfl
    go_wp2_with fail
    clear ca0 ca1 cb0 cb1
    refine (areFracs_val (r := false) (by simp [frAll, h1]) _ _ ps).mono ?_; rintro e w5 ⟨rfl, b5⟩
    have B5 := B4.trans (b5.mono B4.size)
    have xa_5 := xa_4.below b5; clear xa_4
    have xb_5 := xb_4.below b5; clear xb_4
    have xr_5 := xr_4.below b5; clear xr_4
    have xs_5 := xs_4.below b5; clear xs_4
    clear b5 B4
    have ca0 := xa_5.1.at 0 rfl
    have ca1 := xa_5.1.at 1 rfl
    have cb0 := xb_5.1.at 0 rfl
    have cb1 := xb_5.1.at 1 rfl
    have cr0 := xr_5.1.at 0 rfl
    have cr1 := xr_5.1.at 1 rfl
    have fr0 := xr_5.2 0
    have fr1 := xr_5.2 1
    have HBB := Lib.hid B5; clear B5
    have hsz := HBB.out.size
    go_wp2
    refine bodyPost_ret (v := .tuple #[.agg #[.int .i64 0, .int .i64 0], .int .i64 1]) (by simp [results, Try.results51, go_sem, *]) rfl ⟨by simp [divF, h1], ?_⟩
    repeat (first | exact HBB.out | refine Below.alloc ?_ (by simp <;> omega) _ | refine Below.setCell ?_ (by simp <;> omega) _ | refine below_drewN ?_ _)
  cases h2 : frB c d
  · have B0 : Below w.heap.size w w := Below.refl _ _
    have A1 : Below w.heap.size w (w.alloc (.cells #[.int .i64 a, .int .i64 b] 29)) := (Below.refl _ _).alloc (Nat.le_refl _) _
    have B1 := B0.trans (A1.mono B0.size)
    have xa_1 : BoxU (w.alloc (.cells #[.int .i64 a, .int .i64 b] 29)) (w.heap.size) [.int .i64 a, .int .i64 b] := BoxU.newAt _ _ _ (by rfl)
    clear A1 B0
    have A2 : Below (w.alloc (.cells #[.int .i64 a, .int .i64 b] 29)).heap.size (w.alloc (.cells #[.int .i64 a, .int .i64 b] 29)) ((w.alloc (.cells #[.int .i64 a, .int .i64 b] 29)).alloc (.cells #[.int .i64 c, .int .i64 d] 29)) := (Below.refl _ _).alloc (Nat.le_refl _) _
    have B2 := B1.trans (A2.mono B1.size)
    have xa_2 := xa_1.below A2; clear xa_1
    have xb_2 : BoxU ((w.alloc (.cells #[.int .i64 a, .int .i64 b] 29)).alloc (.cells #[.int .i64 c, .int .i64 d] 29)) (w.heap.size + 1) [.int .i64 c, .int .i64 d] := BoxU.newAt _ _ _ (by simp)
    clear A2 B1
    have A3 : Below ((w.alloc (.cells #[.int .i64 a, .int .i64 b] 29)).alloc (.cells #[.int .i64 c, .int .i64 d] 29)).heap.size ((w.alloc (.cells #[.int .i64 a, .int .i64 b] 29)).alloc (.cells #[.int .i64 c, .int .i64 d] 29)) (((w.alloc (.cells #[.int .i64 a, .int .i64 b] 29)).alloc (.cells #[.int .i64 c, .int .i64 d] 29)).alloc (.cells #[.int .i64 0, .int .i64 0] 29)) := (Below.refl _ _).alloc (Nat.le_refl _) _
    have B3 := B2.trans (A3.mono B2.size)
    have xa_3 := xa_2.below A3; clear xa_2
    have xb_3 := xb_2.below A3; clear xb_2
    have xr_3 : BoxU (((w.alloc (.cells #[.int .i64 a, .int .i64 b] 29)).alloc (.cells #[.int .i64 c, .int .i64 d] 29)).alloc (.cells #[.int .i64 0, .int .i64 0] 29)) (w.heap.size + 1 + 1) [.int .i64 0, .int .i64 0] := BoxU.newAt _ _ _ (by simp)
    clear A3 B2
    have ps : Pairs ((((w.alloc (.cells #[.int .i64 a, .int .i64 b] 29)).alloc (.cells #[.int .i64 c, .int .i64 d] 29)).alloc (.cells #[.int .i64 0, .int .i64 0] 29)).alloc (.cells #[.int .i64 a, .int .i64 b, .int .i64 c, .int .i64 d] 29)) (.slice (some ⟨w.heap.size + 1 + 1 + 1, 0, none⟩) 2 2) [(a, b), (c, d)] := by
      have := OwnP.pairs (OwnP.litF (((w.alloc (.cells #[.int .i64 a, .int .i64 b] 29)).alloc (.cells #[.int .i64 c, .int .i64 d] 29)).alloc (.cells #[.int .i64 0, .int .i64 0] 29)) a b c d) (by simp); simpa using this
    have A4 : Below (((w.alloc (.cells #[.int .i64 a, .int .i64 b] 29)).alloc (.cells #[.int .i64 c, .int .i64 d] 29)).alloc (.cells #[.int .i64 0, .int .i64 0] 29)).heap.size (((w.alloc (.cells #[.int .i64 a, .int .i64 b] 29)).alloc (.cells #[.int .i64 c, .int .i64 d] 29)).alloc (.cells #[.int .i64 0, .int .i64 0] 29)) ((((w.alloc (.cells #[.int .i64 a, .int .i64 b] 29)).alloc (.cells #[.int .i64 c, .int .i64 d] 29)).alloc (.cells #[.int .i64 0, .int .i64 0] 29)).alloc (.cells #[.int .i64 a, .int .i64 b, .int .i64 c, .int .i64 d] 29)) := (Below.refl _ _).alloc (Nat.le_refl _) _
    have B4 := B3.trans (A4.mono B3.size)
    have xa_4 := xa_3.below A4; clear xa_3
    have xb_4 := xb_3.below A4; clear xb_3
    have xr_4 := xr_3.below A4; clear xr_3
    have xs_4 : BoxU ((((w.alloc (.cells #[.int .i64 a, .int .i64 b] 29)).alloc (.cells #[.int .i64 c, .int .i64 d] 29)).alloc (.cells #[.int .i64 0, .int .i64 0] 29)).alloc (.cells #[.int .i64 a, .int .i64 b, .int .i64 c, .int .i64 d] 29)) (w.heap.size + 1 + 1 + 1) [.int .i64 a, .int .i64 b, .int .i64 c, .int .i64 d] := BoxU.newAt _ _ _ (by simp)
    clear A4 B3
    go_enter Try.func51, Try.ntmps51
    have ca0 := xa_4.1.at 0 rfl
    have ca1 := xa_4.1.at 1 rfl
    have cb0 := xb_4.1.at 0 rfl
    have cb1 := xb_4.1.at 1 rfl
    go_wp2_with fail
    clear ca0 ca1 cb0 cb1
    refine (areFracs_val (r := false) (by simp [frAll, h1, h2]) _ _ ps).mono ?_; rintro e w5 ⟨rfl, b5⟩
    have B5 := B4.trans (b5.mono B4.size)
    have xa_5 := xa_4.below b5; clear xa_4
    have xb_5 := xb_4.below b5; clear xb_4
    have xr_5 := xr_4.below b5; clear xr_4
    have xs_5 := xs_4.below b5; clear xs_4
    clear b5 B4
    have ca0 := xa_5.1.at 0 rfl
    have ca1 := xa_5.1.at 1 rfl
    have cb0 := xb_5.1.at 0 rfl
    have cb1 := xb_5.1.at 1 rfl
    have cr0 := xr_5.1.at 0 rfl
    have cr1 := xr_5.1.at 1 rfl
    have fr0 := xr_5.2 0
    have fr1 := xr_5.2 1
    have HBB := Lib.hid B5; clear B5
    have hsz := HBB.out.size
    go_wp2
    refine bodyPost_ret (v := .tuple #[.agg #[.int .i64 0, .int .i64 0], .int .i64 1]) (by simp [results, Try.results51, go_sem, *]) rfl ⟨by simp [divF, h1, h2], ?_⟩
    repeat (first | exact HBB.out | refine Below.alloc ?_ (by simp <;> omega) _ | refine Below.setCell ?_ (by simp <;> omega) _ | refine below_drewN ?_ _)
  have q1 := frB_bd h1; have q2 := frB_bd h2
  by_cases h3 : c = 0
  · have hc0 : (c == 0) = true := by simp [h3]
    have HZ := Lib.hid (show divF a b c d = ((0, 0), 2) by unfold divF; rw [if_pos ⟨h1, h2⟩, if_pos h3])
    clear h3
    have B0 : Below w.heap.size w w := Below.refl _ _
    have A1 : Below w.heap.size w (w.alloc (.cells #[.int .i64 a, .int .i64 b] 29)) := (Below.refl _ _).alloc (Nat.le_refl _) _
    have B1 := B0.trans (A1.mono B0.size)
    have xa_1 : BoxU (w.alloc (.cells #[.int .i64 a, .int .i64 b] 29)) (w.heap.size) [.int .i64 a, .int .i64 b] := BoxU.newAt _ _ _ (by rfl)
    clear A1 B0
    have A2 : Below (w.alloc (.cells #[.int .i64 a, .int .i64 b] 29)).heap.size (w.alloc (.cells #[.int .i64 a, .int .i64 b] 29)) ((w.alloc (.cells #[.int .i64 a, .int .i64 b] 29)).alloc (.cells #[.int .i64 c, .int .i64 d] 29)) := (Below.refl _ _).alloc (Nat.le_refl _) _
    have B2 := B1.trans (A2.mono B1.size)
    have xa_2 := xa_1.below A2; clear xa_1
    have xb_2 : BoxU ((w.alloc (.cells #[.int .i64 a, .int .i64 b] 29)).alloc (.cells #[.int .i64 c, .int .i64 d] 29)) (w.heap.size + 1) [.int .i64 c, .int .i64 d] := BoxU.newAt _ _ _ (by simp)
    clear A2 B1
    have A3 : Below ((w.alloc (.cells #[.int .i64 a, .int .i64 b] 29)).alloc (.cells #[.int .i64 c, .int .i64 d] 29)).heap.size ((w.alloc (.cells #[.int .i64 a, .int .i64 b] 29)).alloc (.cells #[.int .i64 c, .int .i64 d] 29)) (((w.alloc (.cells #[.int .i64 a, .int .i64 b] 29)).alloc (.cells #[.int .i64 c, .int .i64 d] 29)).alloc (.cells #[.int .i64 0, .int .i64 0] 29)) := (Below.refl _ _).alloc (Nat.le_refl _) _
    have B3 := B2.trans (A3.mono B2.size)
    have xa_3 := xa_2.below A3; clear xa_2
    have xb_3 := xb_2.below A3; clear xb_2
    have xr_3 : BoxU (((w.alloc (.cells #[.int .i64 a, .int .i64 b] 29)).alloc (.cells #[.int .i64 c, .int .i64 d] 29)).alloc (.cells #[.int .i64 0, .int .i64 0] 29)) (w.heap.size + 1 + 1) [.int .i64 0, .int .i64 0] := BoxU.newAt _ _ _ (by simp)
    clear A3 B2
    have ps : Pairs ((((w.alloc (.cells #[.int .i64 a, .int .i64 b] 29)).alloc (.cells #[.int .i64 c, .int .i64 d] 29)).alloc (.cells #[.int .i64 0, .int .i64 0] 29)).alloc (.cells #[.int .i64 a, .int .i64 b, .int .i64 c, .int .i64 d] 29)) (.slice (some ⟨w.heap.size + 1 + 1 + 1, 0, none⟩) 2 2) [(a, b), (c, d)] := by
      have := OwnP.pairs (OwnP.litF (((w.alloc (.cells #[.int .i64 a, .int .i64 b] 29)).alloc (.cells #[.int .i64 c, .int .i64 d] 29)).alloc (.cells #[.int .i64 0, .int .i64 0] 29)) a b c d) (by simp); simpa using this
    have A4 : Below (((w.alloc (.cells #[.int .i64 a, .int .i64 b] 29)).alloc (.cells #[.int .i64 c, .int .i64 d] 29)).alloc (.cells #[.int .i64 0, .int .i64 0] 29)).heap.size (((w.alloc (.cells #[.int .i64 a, .int .i64 b] 29)).alloc (.cells #[.int .i64 c, .int .i64 d] 29)).alloc (.cells #[.int .i64 0, .int .i64 0] 29)) ((((w.alloc (.cells #[.int .i64 a, .int .i64 b] 29)).alloc (.cells #[.int .i64 c, .int .i64 d] 29)).alloc (.cells #[.int .i64 0, .int .i64 0] 29)).alloc (.cells #[.int .i64 a, .int .i64 b, .int .i64 c, .int .i64 d] 29)) := (Below.refl _ _).alloc (Nat.le_refl _) _
    have B4 := B3.trans (A4.mono B3.size)
    have xa_4 := xa_3.below A4; clear xa_3
    have xb_4 := xb_3.below A4; clear xb_3
    have xr_4 := xr_3.below A4; clear xr_3
    have xs_4 : BoxU ((((w.alloc (.cells #[.int .i64 a, .int .i64 b] 29)).alloc (.cells #[.int .i64 c, .int .i64 d] 29)).alloc (.cells #[.int .i64 0, .int .i64 0] 29)).alloc (.cells #[.int .i64 a, .int .i64 b, .int .i64 c, .int .i64 d] 29)) (w.heap.size + 1 + 1 + 1) [.int .i64 a, .int .i64 b, .int .i64 c, .int .i64 d] := BoxU.newAt _ _ _ (by simp)
    clear A4 B3
    go_enter Try.func51, Try.ntmps51
    have ca0 := xa_4.1.at 0 rfl
    have ca1 := xa_4.1.at 1 rfl
    have cb0 := xb_4.1.at 0 rfl
    have cb1 := xb_4.1.at 1 rfl
    go_wp2_with fail
    clear ca0 ca1 cb0 cb1
    refine (areFracs_val (r := true) (by simp [frAll, h1, h2]) _ _ ps).mono ?_; rintro e w5 ⟨rfl, b5⟩
    have B5 := B4.trans (b5.mono B4.size)
    have xa_5 := xa_4.below b5; clear xa_4
    have xb_5 := xb_4.below b5; clear xb_4
    have xr_5 := xr_4.below b5; clear xr_4
    have xs_5 := xs_4.below b5; clear xs_4
    clear b5 B4
    have ca0 := xa_5.1.at 0 rfl
    have ca1 := xa_5.1.at 1 rfl
    have cb0 := xb_5.1.at 0 rfl
    have cb1 := xb_5.1.at 1 rfl
    have cr0 := xr_5.1.at 0 rfl
    have cr1 := xr_5.1.at 1 rfl
    have fr0 := xr_5.2 0
    have fr1 := xr_5.2 1
    have HBB := Lib.hid B5; clear B5
    have hsz := HBB.out.size
    go_wp2
    refine bodyPost_ret (v := .tuple #[.agg #[.int .i64 0, .int .i64 0], .int .i64 2]) (by simp [results, Try.results51, go_sem, *]) rfl ⟨by rw [HZ.out], ?_⟩
    repeat (first | exact HBB.out | refine Below.alloc ?_ (by simp <;> omega) _ | refine Below.setCell ?_ (by simp <;> omega) _ | refine below_drewN ?_ _)
  have h3' : (c == 0) = false := by simpa using h3
  have p1 := mul_abs (a := a) (b := d) (A := 1000000000) (B := 1000000) (by omega) (by omega)
  have p2 := mul_abs (a := b) (b := c) (A := 1000000) (B := 1000000000) (by omega) (by omega)
  have B0 : Below w.heap.size w w := Below.refl _ _
  have A1 : Below w.heap.size w (w.alloc (.cells #[.int .i64 a, .int .i64 b] 29)) := (Below.refl _ _).alloc (Nat.le_refl _) _
  have B1 := B0.trans (A1.mono B0.size)
  have xa_1 : BoxU (w.alloc (.cells #[.int .i64 a, .int .i64 b] 29)) (w.heap.size) [.int .i64 a, .int .i64 b] := BoxU.newAt _ _ _ (by rfl)
  clear A1 B0
  have A2 : Below (w.alloc (.cells #[.int .i64 a, .int .i64 b] 29)).heap.size (w.alloc (.cells #[.int .i64 a, .int .i64 b] 29)) ((w.alloc (.cells #[.int .i64 a, .int .i64 b] 29)).alloc (.cells #[.int .i64 c, .int .i64 d] 29)) := (Below.refl _ _).alloc (Nat.le_refl _) _
  have B2 := B1.trans (A2.mono B1.size)
  have xa_2 := xa_1.below A2; clear xa_1
  have xb_2 : BoxU ((w.alloc (.cells #[.int .i64 a, .int .i64 b] 29)).alloc (.cells #[.int .i64 c, .int .i64 d] 29)) (w.heap.size + 1) [.int .i64 c, .int .i64 d] := BoxU.newAt _ _ _ (by simp)
  clear A2 B1
  have A3 : Below ((w.alloc (.cells #[.int .i64 a, .int .i64 b] 29)).alloc (.cells #[.int .i64 c, .int .i64 d] 29)).heap.size ((w.alloc (.cells #[.int .i64 a, .int .i64 b] 29)).alloc (.cells #[.int .i64 c, .int .i64 d] 29)) (((w.alloc (.cells #[.int .i64 a, .int .i64 b] 29)).alloc (.cells #[.int .i64 c, .int .i64 d] 29)).alloc (.cells #[.int .i64 0, .int .i64 0] 29)) := (Below.refl _ _).alloc (Nat.le_refl _) _
  have B3 := B2.trans (A3.mono B2.size)
  have xa_3 := xa_2.below A3; clear xa_2
  have xb_3 := xb_2.below A3; clear xb_2
  have xr_3 : BoxU (((w.alloc (.cells #[.int .i64 a, .int .i64 b] 29)).alloc (.cells #[.int .i64 c, .int .i64 d] 29)).alloc (.cells #[.int .i64 0, .int .i64 0] 29)) (w.heap.size + 1 + 1) [.int .i64 0, .int .i64 0] := BoxU.newAt _ _ _ (by simp)
  clear A3 B2
  have ps : Pairs ((((w.alloc (.cells #[.int .i64 a, .int .i64 b] 29)).alloc (.cells #[.int .i64 c, .int .i64 d] 29)).alloc (.cells #[.int .i64 0, .int .i64 0] 29)).alloc (.cells #[.int .i64 a, .int .i64 b, .int .i64 c, .int .i64 d] 29)) (.slice (some ⟨w.heap.size + 1 + 1 + 1, 0, none⟩) 2 2) [(a, b), (c, d)] := by
    have := OwnP.pairs (OwnP.litF (((w.alloc (.cells #[.int .i64 a, .int .i64 b] 29)).alloc (.cells #[.int .i64 c, .int .i64 d] 29)).alloc (.cells #[.int .i64 0, .int .i64 0] 29)) a b c d) (by simp); simpa using this
  have A4 : Below (((w.alloc (.cells #[.int .i64 a, .int .i64 b] 29)).alloc (.cells #[.int .i64 c, .int .i64 d] 29)).alloc (.cells #[.int .i64 0, .int .i64 0] 29)).heap.size (((w.alloc (.cells #[.int .i64 a, .int .i64 b] 29)).alloc (.cells #[.int .i64 c, .int .i64 d] 29)).alloc (.cells #[.int .i64 0, .int .i64 0] 29)) ((((w.alloc (.cells #[.int .i64 a, .int .i64 b] 29)).alloc (.cells #[.int .i64 c, .int .i64 d] 29)).alloc (.cells #[.int .i64 0, .int .i64 0] 29)).alloc (.cells #[.int .i64 a, .int .i64 b, .int .i64 c, .int .i64 d] 29)) := (Below.refl _ _).alloc (Nat.le_refl _) _
  have B4 := B3.trans (A4.mono B3.size)
  have xa_4 := xa_3.below A4; clear xa_3
  have xb_4 := xb_3.below A4; clear xb_3
  have xr_4 := xr_3.below A4; clear xr_3
  have xs_4 : BoxU ((((w.alloc (.cells #[.int .i64 a, .int .i64 b] 29)).alloc (.cells #[.int .i64 c, .int .i64 d] 29)).alloc (.cells #[.int .i64 0, .int .i64 0] 29)).alloc (.cells #[.int .i64 a, .int .i64 b, .int .i64 c, .int .i64 d] 29)) (w.heap.size + 1 + 1 + 1) [.int .i64 a, .int .i64 b, .int .i64 c, .int .i64 d] := BoxU.newAt _ _ _ (by simp)
  clear A4 B3
  go_enter Try.func51, Try.ntmps51
  have ca0 := xa_4.1.at 0 rfl
  have ca1 := xa_4.1.at 1 rfl
  have cb0 := xb_4.1.at 0 rfl
  have cb1 := xb_4.1.at 1 rfl
  go_wp2_with fail
  clear ca0 ca1 cb0 cb1
  refine (areFracs_val (r := true) (by simp [frAll, h1, h2]) _ _ ps).mono ?_; rintro e w5 ⟨rfl, b5⟩
  have B5 := B4.trans (b5.mono B4.size)
  have xa_5 := xa_4.below b5; clear xa_4
  have xb_5 := xb_4.below b5; clear xb_4
  have xr_5 := xr_4.below b5; clear xr_4
  have xs_5 := xs_4.below b5; clear xs_4
  clear b5 B4
  have ca0 := xa_5.1.at 0 rfl
  have ca1 := xa_5.1.at 1 rfl
  have cb0 := xb_5.1.at 0 rfl
  have cb1 := xb_5.1.at 1 rfl
  go_wp2_with fail
  clear ca0 ca1 cb0 cb1
  refine (implMake_any (a * d) (b * c) _ (by omega) (by omega)).mono ?_; rintro e w6 ⟨rfl, b6⟩
  have B6 := B5.trans (b6.mono B5.size)
  have xa_6 := xa_5.below b6; clear xa_5
  have xb_6 := xb_5.below b6; clear xb_5
  have xr_6 := xr_5.below b6; clear xr_5
  have xs_6 := xs_5.below b6; clear xs_5
  clear b6 B5
  have hE : divF a b c d = mkF (a * d) (b * c) := by simp [divF, h1, h2, h3]
  have HE := Lib.hid hE; clear hE
  generalize mkF (a * d) (b * c) = R at *
  obtain ⟨⟨r1, r2⟩, r3⟩ := R
  have ca0 := xa_6.1.at 0 rfl
  have ca1 := xa_6.1.at 1 rfl
  have cb0 := xb_6.1.at 0 rfl
  have cb1 := xb_6.1.at 1 rfl
  have cr0 := xr_6.1.at 0 rfl
  have cr1 := xr_6.1.at 1 rfl
  have fr0 := xr_6.2 0
  have fr1 := xr_6.2 1
  have HBB := Lib.hid B6; clear B6
  have hsz := HBB.out.size
  go_wp2
  refine bodyPost_ret (v := .tuple #[.agg #[.int .i64 r1, .int .i64 r2], .int .i64 r3]) (by simp [results, Try.results51, go_sem, *]) rfl ⟨by rw [HE.out], ?_⟩
  repeat (first | exact HBB.out | refine Below.alloc ?_ (by simp <;> omega) _ | refine Below.setCell ?_ (by simp <;> omega) _ | refine below_drewN ?_ _)


theorem implCmp_any (a b c d : Int) (w : World) (ha : -1000000000 ≤ a ∧ a ≤ 1000000000) (hb : -1000000 ≤ b ∧ b ≤ 1000000) (hc : -1000000000 ≤ c ∧ c ≤ 1000000000) (hd : -1000000 ≤ d ∧ d ≤ 1000000) :
    Calls Try.prog 56 #[.agg #[.int .i64 a, .int .i64 b], .agg #[.int .i64 c, .int .i64 d]] w fun e w' => e = .returned (.int .i64 (cmpF a b c d)) ∧ Below w.heap.size w w' := by
  have p1 := mul_abs (a := a) (b := d) (A := 1000000000) (B := 1000000) ha (by omega)
  have p2 := mul_abs (a := c) (b := b) (A := 1000000000) (B := 1000000) hc (by omega)
  have bel : Below w.heap.size w ((w.alloc (.cells #[.int .i64 a, .int .i64 b] 29)).alloc (.cells #[.int .i64 c, .int .i64 d] 29)) := ((Below.refl _ _).alloc (Nat.le_refl _) _).alloc (by simp) _
  by_cases h1 : a * d < c * b
  · have H := Lib.hid (show cmpF a b c d = -1 by unfold cmpF; rw [if_pos h1])
    have h1' : a * d - c * b < 0 := by omega
    go_enter Try.func56, Try.ntmps56
    go_wp2
    go_ret
    exact ⟨ret_int H.out.symm, bel⟩
  by_cases h2 : c * b < a * d
  · have H := Lib.hid (show cmpF a b c d = 1 by unfold cmpF; rw [if_neg h1, if_pos h2])
    have h1' : 0 < a * d - c * b := by omega
    go_enter Try.func56, Try.ntmps56
    go_wp2
    go_ret
    exact ⟨ret_int H.out.symm, bel⟩
  · have H := Lib.hid (show cmpF a b c d = 0 by unfold cmpF; rw [if_neg h1, if_neg h2])
    have h1' : ¬ a * d - c * b < 0 := by omega
    have h2' : ¬ 0 < a * d - c * b := by omega
    go_enter Try.func56, Try.ntmps56
    go_wp2
    go_ret
    exact ⟨ret_int H.out.symm, bel⟩
theorem specCmp_any (a b c d : Int) (w : World) (ha : -1000000000 ≤ a ∧ a ≤ 1000000000) (hb : -1000000 ≤ b ∧ b ≤ 1000000) (hc : -1000000000 ≤ c ∧ c ≤ 1000000000) (hd : -1000000 ≤ d ∧ d ≤ 1000000) :
    Calls Try.prog 54 #[.agg #[.int .i64 a, .int .i64 b], .agg #[.int .i64 c, .int .i64 d]] w fun e w' => e = .returned (.int .i64 (cmpF a b c d)) ∧ Below w.heap.size w w' := by
  have p1 := mul_abs (a := a) (b := d) (A := 1000000000) (B := 1000000) ha (by omega)
  have p2 := mul_abs (a := c) (b := b) (A := 1000000000) (B := 1000000) hc (by omega)
  have bel : Below w.heap.size w ((w.alloc (.cells #[.int .i64 a, .int .i64 b] 29)).alloc (.cells #[.int .i64 c, .int .i64 d] 29)) := ((Below.refl _ _).alloc (Nat.le_refl _) _).alloc (by simp) _
  by_cases h1 : a * d < c * b
  · have H := Lib.hid (show cmpF a b c d = -1 by unfold cmpF; rw [if_pos h1])
    have h1' : a * d - c * b < 0 := by omega
    go_enter Try.func54, Try.ntmps54
    go_wp2
    go_ret
    exact ⟨ret_int H.out.symm, bel⟩
  by_cases h2 : c * b < a * d
  · have H := Lib.hid (show cmpF a b c d = 1 by unfold cmpF; rw [if_neg h1, if_pos h2])
    have h1' : 0 < a * d - c * b := by omega
    go_enter Try.func54, Try.ntmps54
    go_wp2
    go_ret
    exact ⟨ret_int H.out.symm, bel⟩
  · have H := Lib.hid (show cmpF a b c d = 0 by unfold cmpF; rw [if_neg h1, if_neg h2])
    have h1' : ¬ a * d - c * b < 0 := by omega
    have h2' : ¬ 0 < a * d - c * b := by omega
    go_enter Try.func54, Try.ntmps54
    go_wp2
    go_ret
    exact ⟨ret_int H.out.symm, bel⟩

end Go.Proofs.Ytpngabaeekjhmaa
