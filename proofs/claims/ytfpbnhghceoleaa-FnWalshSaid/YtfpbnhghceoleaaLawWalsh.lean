/-
  The law FnWalsh: plain facts (the transform is linear; twice the transform is the table times its length), and the walk.
-/
import Derived.Test.YtfpbnhghceoleaaWalshW
import Derived.Test.YtfpbnhghceoleaaMix
import Derived.Test.YtfpbnhghceoleaaDrawT
import Derived.Test.YtfpbnhghceoleaaLong
namespace Go.Proofs.Ytfpbnhghceoleaa
open Go.RowKit

def sumF (f : Nat → Int) : Nat → Int
  | 0 => 0
  | n + 1 => sumF f n + f n
def sg (k j : Nat) : Int := if oddOnes (k &&& j) = true then -1 else 1
theorem sg_or (k j : Nat) : sg k j = 1 ∨ sg k j = -1 := by unfold sg; split <;> simp
theorem sumF_congr {f g : Nat → Int} {n : Nat} (h : ∀ j, j < n → f j = g j) : sumF f n = sumF g n := by
  induction n with
  | zero => rfl
  | succ n ih => simp only [sumF]; rw [ih (fun j hj => h j (by omega)), h n (by omega)]
theorem wsum_sum (xs : List Int) (k i : Nat) : wsum xs k i = wrap32 (sumF (fun j => sg k j * xs.getD j 0) i) := by
  induction i with
  | zero => simp only [wsum, sumF]; unfold wrap32; omega
  | succ i ih =>
    simp only [wsum, sumF]
    rw [ih, w_add]
    congr 2
    unfold sg
    split <;> simp
theorem sum_wrap {s g : Nat → Int} (hs : ∀ k, s k = 1 ∨ s k = -1) (n : Nat) : wrap32 (sumF (fun k => s k * wrap32 (g k)) n) = wrap32 (sumF (fun k => s k * g k) n) := by
  induction n with
  | zero => rfl
  | succ n ih =>
    simp only [sumF]
    rw [← w_add, ih, w_add]
    rcases hs n with h | h <;> rw [h]
    · rw [Int.one_mul, Int.one_mul, w_add']
    · rw [Int.neg_one_mul, Int.neg_one_mul, w_neg]
theorem sumF_mulL (c : Int) (f : Nat → Int) (n : Nat) : c * sumF f n = sumF (fun j => c * f j) n := by
  induction n with
  | zero => simp [sumF]
  | succ n ih => simp only [sumF]; rw [Int.mul_add, ih]
theorem sumF_mulR (c : Int) (f : Nat → Int) (n : Nat) : sumF f n * c = sumF (fun j => f j * c) n := by
  induction n with
  | zero => simp [sumF]
  | succ n ih => simp only [sumF]; rw [Int.add_mul, ih]
theorem sumF_add (f g : Nat → Int) (n : Nat) : sumF (fun j => f j + g j) n = sumF f n + sumF g n := by
  induction n with
  | zero => rfl
  | succ n ih => simp only [sumF]; rw [ih]; omega
theorem sumF_zero (n : Nat) : sumF (fun _ => 0) n = 0 := by
  induction n with
  | zero => rfl
  | succ n ih => simp only [sumF]; rw [ih]; rfl
theorem sumF_swap (h : Nat → Nat → Int) (m n : Nat) : sumF (fun k => sumF (fun j => h k j) n) m = sumF (fun j => sumF (fun k => h k j) m) n := by
  induction m with
  | zero => simp only [sumF]; exact (sumF_zero n).symm
  | succ m ih => simp only [sumF]; rw [ih, sumF_add]
theorem sumF_delta (N : Int) (x : Nat → Int) (i n : Nat) : sumF (fun j => (if i = j then N else 0) * x j) n = if i < n then N * x i else 0 := by
  induction n with
  | zero => rfl
  | succ n ih =>
    simp only [sumF]
    rw [ih]
    by_cases h : i = n
    · subst h; simp
    · by_cases h2 : i < n
      · rw [if_pos h2, if_neg h, if_pos (by omega)]; simp
      · rw [if_neg h2, if_neg h, if_neg (by omega)]; simp
theorem orth2 : ∀ i, i < 2 → ∀ j, j < 2 → sumF (fun k => sg i k * sg k j) 2 = if i = j then 2 else 0 := by decide +kernel
theorem orth4 : ∀ i, i < 4 → ∀ j, j < 4 → sumF (fun k => sg i k * sg k j) 4 = if i = j then 4 else 0 := by decide +kernel
theorem orth8 : ∀ i, i < 8 → ∀ j, j < 8 → sumF (fun k => sg i k * sg k j) 8 = if i = j then 8 else 0 := by decide +kernel
theorem orth16 : ∀ i, i < 16 → ∀ j, j < 16 → sumF (fun k => sg i k * sg k j) 16 = if i = j then 16 else 0 := by decide +kernel
theorem orth (n : Nat) (h : n = 2 ∨ n = 4 ∨ n = 8 ∨ n = 16) : ∀ i, i < n → ∀ j, j < n → sumF (fun k => sg i k * sg k j) n = if i = j then (n : Int) else 0 := by
  rcases h with rfl | rfl | rfl | rfl
  · exact orth2
  · exact orth4
  · exact orth8
  · exact orth16
theorem walTo_getD (xs : List Int) {n i : Nat} (h : i < n) : (walTo xs n).getD i 0 = wsum xs i xs.length := by simp [walTo, List.getD, h]
/-- Twice the transform: the table times its length. -/
theorem walsh_twice (xs : List Int) (h : xs.length = 2 ∨ xs.length = 4 ∨ xs.length = 8 ∨ xs.length = 16) {i : Nat} (hi : i < xs.length) :
    wsum (walTo xs xs.length) i xs.length = wrap32 (xs.getD i 0 * (xs.length : Int)) := by
  rw [wsum_sum, sumF_congr (g := fun k => sg i k * wrap32 (sumF (fun j => sg k j * xs.getD j 0) xs.length)) (fun k hk => by rw [walTo_getD xs hk, wsum_sum]), sum_wrap (sg_or i)]
  congr 1
  rw [sumF_congr (g := fun k => sumF (fun j => sg i k * sg k j * xs.getD j 0) xs.length) (fun k _ => by rw [sumF_mulL]; exact sumF_congr fun j _ => (Int.mul_assoc _ _ _).symm), sumF_swap,
    sumF_congr (g := fun j => (if i = j then (xs.length : Int) else 0) * xs.getD j 0) (fun j hj => by rw [← sumF_mulR, orth xs.length h i hi j hj]), sumF_delta, if_pos hi, Int.mul_comm]
/-- The transform of a sum. -/
theorem walsh_sum (xs ys zs : List Int) (k : Nat) {n : Nat} (h : ∀ i, i < n → zs.getD i 0 = wrap32 (xs.getD i 0 + ys.getD i 0)) : wsum zs k n = wrap32 (wsum xs k n + wsum ys k n) := by
  induction n with
  | zero => simp only [wsum]; unfold wrap32; omega
  | succ n ih =>
    simp only [wsum]
    rw [ih (fun i hi => h i (by omega)), h n (by omega)]
    generalize wsum xs k n = a
    generalize wsum ys k n = b
    generalize xs.getD n 0 = c
    generalize ys.getD n 0 = d
    split <;> (unfold wrap32; omega)
theorem samB_of {xs : List Int} (h : ∀ x ∈ xs, -2147483648 ≤ x ∧ x ≤ 2147483647) : samB xs = true := List.all_eq_true.2 fun x hx => inB_of (h x hx)
theorem samB_walTo (xs : List Int) (n : Nat) : samB (walTo xs n) = true := samB_of fun x hx => by
  simp [walTo] at hx
  obtain ⟨i, _, rfl⟩ := hx
  exact wsum_bd _ _ _
/-- The sum of two tables, as MixTables makes it. -/
def sum2 (xs ys : List Int) : List Int := addT (addT (List.replicate xs.length 0) xs 1) ys 1
theorem sum2_len {xs ys : List Int} (h : ys.length = xs.length) : (sum2 xs ys).length = xs.length := by simp [sum2, h]
theorem addTo_getD (xs ys : List Int) (g : Int) {n i : Nat} (h : i < n) : (addTo xs ys g n).getD i 0 = wrap32 (xs.getD i 0 + g * ys.getD i 0) := by simp [addTo, List.getD, h]
theorem sum2_getD {xs ys : List Int} (h : ys.length = xs.length) {i : Nat} (hi : i < xs.length) : (sum2 xs ys).getD i 0 = wrap32 (xs.getD i 0 + ys.getD i 0) := by
  unfold sum2 addT
  rw [addTo_getD _ _ _ (by simp; omega), addTo_getD _ _ _ (by simp; omega), Int.one_mul, Int.one_mul, w_add]
  have : (List.replicate xs.length (0 : Int)).getD i 0 = 0 := by simp [List.getD, hi]
  rw [this, Int.zero_add]
theorem mix_two {xs ys : List Int} (h : xs.length = 2 ∨ xs.length = 4 ∨ xs.length = 8 ∨ xs.length = 16) (hl : ys.length = xs.length) (hx : samB xs = true) (hy : samB ys = true) : MixF [xs, ys] [1, 1] = (sum2 xs ys, 0) := by
  have h1 : waveB xs = true := by simp [waveB, hx, szB_true.2 (by omega : (xs.length : Int) = 2 ∨ (xs.length : Int) = 4 ∨ (xs.length : Int) = 8 ∨ (xs.length : Int) = 16)]
  have h2 : waveB ys = true := by simp [waveB, hy, hl, szB_true.2 (by omega : (xs.length : Int) = 2 ∨ (xs.length : Int) = 4 ∨ (xs.length : Int) = 8 ∨ (xs.length : Int) = 16)]
  have h3 : samB [1, 1] = true := by decide
  have h4 : tabOk ([xs, ys].getD 0 []).length [xs, ys] = true := by
    show ([xs, ys].all fun t => waveB t && decide (t.length = xs.length)) = true
    simp [h1, h2, hl]
  unfold MixF
  rw [h3, h4]
  simp
  rfl

theorem wrapAdd_any (a b : Int) (w : World) : Calls Try.prog 50 #[.int .i64 a, .int .i64 b] w fun e w' => e = .returned (.int .i64 (wrap32 (a + b))) ∧ w = w' := by
  go_enter Try.func50, Try.ntmps50
  go_wp2_with (go_at_call 97; refine (specAdd_any _ _ _).mono ?_; rintro e w' ⟨rfl, rfl⟩)
  go_ret
  exact ⟨rfl, rfl⟩
theorem wrapMul_any (a b : Int) (w : World) : Calls Try.prog 51 #[.int .i64 a, .int .i64 b] w fun e w' => e = .returned (.int .i64 (wrap32 (a * b))) ∧ w = w' := by
  go_enter Try.func51, Try.ntmps51
  go_wp2_with (go_at_call 115; refine (specMul_any _ _ _).mono ?_; rintro e w' ⟨rfl, rfl⟩)
  go_ret
  exact ⟨rfl, rfl⟩

/-- Two slices in a new slice, and two ones. -/
theorem two_lists {w : World} {v1 v2 : Value} {xs ys : List Int} (h1 : Ints w v1 xs) (h2 : Ints w v2 ys) :
    Lists ((w.alloc (.cells #[v1, v2] 30)).alloc (.cells #[.int .i64 1, .int .i64 1] 2)) (.slice (some ⟨w.heap.size, 0, none⟩) 2 2) [xs, ys] ∧
    Ints ((w.alloc (.cells #[v1, v2] 30)).alloc (.cells #[.int .i64 1, .int .i64 1] 2)) (.slice (some ⟨w.heap.size + 1, 0, none⟩) 2 2) [1, 1] := by
  have A1 : Below w.heap.size w (w.alloc (.cells #[v1, v2] 30)) := (Below.refl _ _).alloc (Nat.le_refl _) _
  have A2 : Below (w.alloc (.cells #[v1, v2] 30)).heap.size (w.alloc (.cells #[v1, v2] 30)) ((w.alloc (.cells #[v1, v2] 30)).alloc (.cells #[.int .i64 1, .int .i64 1] 2)) := (Below.refl _ _).alloc (Nat.le_refl _) _
  have b1 := (Box.new w [v1, v2] 30).below A2
  have b2 : Box ((w.alloc (.cells #[v1, v2] 30)).alloc (.cells #[.int .i64 1, .int .i64 1] 2)) (w.heap.size + 1) [.int .i64 1, .int .i64 1] := Box.newAt _ [.int .i64 1, .int .i64 1] 2 (by simp)
  refine ⟨⟨by simp, _, 2, rfl, fun _ => ⟨_, 0, rfl, fun i hi => ?_⟩⟩, ⟨by simp, _, 2, rfl, fun _ => ⟨_, 0, rfl, fun i hi => ?_⟩⟩⟩
  · match i, hi with
    | 0, _ => exact ⟨v1, b1.at 0 rfl, (h1.below A1).below A2⟩
    | 1, _ => exact ⟨v2, b1.at 1 rfl, (h2.below A1).below A2⟩
  · match i, hi with
    | 0, _ => exact b2.at 0 rfl
    | 1, _ => exact b2.at 1 rfl

set_option maxRecDepth 100000 in
set_option maxHeartbeats 4000000 in
theorem law_FnWalsh (a0 : Option Addr) (len0 cap0 : Nat) (zs0 : List Int) (w : World) (hrow0 : IsRow .u8 w a0 len0 cap0 zs0) :
    Calls Try.prog 11 #[.slice a0 len0 cap0] w fun e w' => e = .returned (.bool true) ∧ Below w.heap.size w w' := by
  have HX := Lib.hid (Nums.of_row hrow0); have HB := Lib.hid (bytes_of_row hrow0)
  clear hrow0
  by_cases hlong : 3000 < len0
  · go_enter Try.func11, Try.ntmps11
    go_wp2_with (go_at_call 28; refine (a2Long_yes a0 none len0 cap0 0 0 _ (.inl hlong)).mono ?_; rintro e w' ⟨rfl, rfl⟩)
    go_ret
    exact ⟨rfl, Below.refl _ _⟩
  go_enter Try.func11, Try.ntmps11
  go_wp2_with fail
  refine (a2Long_no a0 none len0 cap0 0 0 _ ⟨by omega, by omega⟩).mono ?_; rintro e w' ⟨rfl, rfl⟩
  go_wp2_with fail
  refine (a2Tables_any _ _ _ HX.out HB.out).mono ?_; rintro e w1 ⟨xs, ys, v1, v2, rfl, hl, hly, hs, hsy, o1, o2, B1⟩
  clear HX HB hlong
  have hwx : waveB xs = true := by simp [waveB, hs, szB_true.2 (by omega : (xs.length : Int) = 2 ∨ (xs.length : Int) = 4 ∨ (xs.length : Int) = 8 ∨ (xs.length : Int) = 16)]
  have hwy : waveB ys = true := by simp [waveB, hsy, hly, szB_true.2 (by omega : (xs.length : Int) = 2 ∨ (xs.length : Int) = 4 ∨ (xs.length : Int) = 8 ∨ (xs.length : Int) = 16)]
  have hwz : waveB (sum2 xs ys) = true := by
    have : samB (sum2 xs ys) = true := samB_of fun x hx => by
      simp [sum2, addT, addTo] at hx
      obtain ⟨i, _, rfl⟩ := hx
      exact wrap32_bd _
    simp [waveB, this, sum2_len hly, szB_true.2 (by omega : (xs.length : Int) = 2 ∨ (xs.length : Int) = 4 ∨ (xs.length : Int) = 8 ∨ (xs.length : Int) = 16)]
  have hwt : waveB (walTo xs xs.length) = true := by simp [waveB, samB_walTo, szB_true.2 (by omega : (xs.length : Int) = 2 ∨ (xs.length : Int) = 4 ∨ (xs.length : Int) = 8 ∨ (xs.length : Int) = 16)]
  have EX := Lib.hid (show walR xs = (walTo xs xs.length, 0) by simp [walR, hwx])
  have EY := Lib.hid (show walR ys = (walTo ys xs.length, 0) by simp [walR, hwy, hly])
  have EZ := Lib.hid (show walR (sum2 xs ys) = (walTo (sum2 xs ys) xs.length, 0) by simp [walR, hwz, sum2_len hly])
  have ET := Lib.hid (show walR (walTo xs xs.length) = (walTo (walTo xs xs.length) xs.length, 0) by simp [walR, hwt])
  have EM := Lib.hid (mix_two hl hly hs hsy)
  have HSUM : Hid (∀ i, i < xs.length → (walTo (sum2 xs ys) xs.length).getD i 0 = wrap32 ((walTo xs xs.length).getD i 0 + (walTo ys xs.length).getD i 0)) := fun i hi => by
    rw [walTo_getD _ hi, walTo_getD _ hi, walTo_getD _ hi, sum2_len hly, hly]
    exact walsh_sum xs ys _ i fun j hj => sum2_getD hly hj
  have HTW : Hid (∀ i, i < xs.length → (walTo (walTo xs xs.length) xs.length).getD i 0 = wrap32 (xs.getD i 0 * (xs.length : Int))) := fun i hi => by
    rw [walTo_getD _ hi, walTo_length]; exact walsh_twice xs hl hi
  have LS := Lib.hid (sum2_len hly)
  have LY := Lib.hid hly
  have hl16 : 2 ≤ xs.length ∧ xs.length ≤ 16 := by omega
  clear hwx hwy hwz hwt hs hsy hl hly
  obtain ⟨p1, k1, rfl, _, _⟩ := o1.shape1
  obtain ⟨p2, k2, rfl, _, _⟩ := o2.shape1
  rw [LY.out] at o2 ⊢
  have i1 := o1.ints; have i2 := o2.ints
  clear o1 o2
  go_wp2_with fail
  refine (implWalsh_any _ xs _ i1).mono ?_; rintro e w2 ⟨v2, rfl, o2, b2⟩
  rw [EX.out] at o2 ⊢
  obtain ⟨p3, k3, rfl, _, _⟩ := o2.shape1
  rw [walTo_length] at o2 ⊢
  have i3 := o2.ints; have j1 := i1.below b2; have j2 := i2.below b2
  have B2 := B1.trans (b2.mono B1.size)
  clear o2 b2 i1 i2 B1
  go_wp2_with fail
  refine (implWalsh_any _ ys _ j2).mono ?_; rintro e w3 ⟨v3, rfl, o3, b3⟩
  rw [EY.out] at o3 ⊢
  obtain ⟨p4, k4, rfl, _, _⟩ := o3.shape1
  rw [walTo_length] at o3 ⊢
  have i4 := o3.ints; have l1 := j1.below b3; have l2 := j2.below b3; have l3 := i3.below b3
  have B3 := B2.trans (b3.mono B2.size)
  clear o3 b3 j1 j2 i3 B2
  have hTL := two_lists l1 l2
  have A3 : Below w3.heap.size w3 ((w3.alloc (.cells #[.slice p1 xs.length k1, .slice p2 xs.length k2] 30)).alloc (.cells #[.int .i64 1, .int .i64 1] 2)) := ((Below.refl _ _).alloc (Nat.le_refl _) _).alloc (by simp) _
  go_wp2_with fail
  refine (implMix_any _ _ [xs, ys] [1, 1] _ hTL.1 hTL.2 (fun i => by
    match i with
    | 0 => show xs.length ≤ 1048576; omega
    | 1 => show ys.length ≤ 1048576; rw [LY.out]; omega
    | i + 2 => simp)).mono ?_; rintro e w4 ⟨v5, rfl, o4, b4⟩
  rw [EM.out] at o4 ⊢
  obtain ⟨p5, k5, rfl, _, _⟩ := o4.shape1
  rw [LS.out] at o4 ⊢
  have i5 := o4.ints
  have l4 := A3.trans (b4.mono A3.size)
  have m1 := l1.below l4; have m3 := l3.below l4; have m4 := i4.below l4
  have B4 := B3.trans (l4.mono B3.size)
  clear o4 b4 A3 l4 l1 l2 l3 i4 B3 hTL
  go_wp2_with fail
  refine (implWalsh_any _ (sum2 xs ys) _ i5).mono ?_; rintro e w5 ⟨v6, rfl, o5, b5⟩
  rw [EZ.out] at o5 ⊢
  obtain ⟨p6, k6, rfl, _, _⟩ := o5.shape1
  rw [walTo_length] at o5 ⊢
  have i6 := o5.ints
  have n1 := m1.below b5; have n3 := m3.below b5; have n4 := m4.below b5
  have B5 := B4.trans (b5.mono B4.size)
  clear o5 b5 m1 m3 m4 i5 B4
  go_wp2_with fail
  refine (implWalsh_any _ (walTo xs xs.length) _ n3).mono ?_; rintro e w6 ⟨v7, rfl, o6, b6⟩
  rw [ET.out] at o6 ⊢
  obtain ⟨p7, k7, rfl, _, _⟩ := o6.shape1
  rw [walTo_length] at o6 ⊢
  have q7 := Lib.hid o6.ints; have q1 := Lib.hid (n1.below b6); have q3 := Lib.hid (n3.below b6); have q4 := Lib.hid (n4.below b6); have q6 := Lib.hid (i6.below b6)
  have B6 := B5.trans (b6.mono B5.size)
  clear o6 b6 n1 n3 n4 i6 B5 EX EY EZ ET EM LS
  go_wp2
  go_loopw [15] (fun i wr => ∃ k : Nat, k ≤ xs.length ∧ i = .int .i64 k ∧ Below w6.heap.size w6 wr) (fun i _ => xs.length - (intOf i).toNat)
  case atStart => exact ⟨0, Nat.zero_le _, rfl, Below.refl _ _⟩
  case round =>
    obtain ⟨k, hk, rfl, hbel⟩ := hrel
    by_cases hlt : k < xs.length
    · have rd : ∀ {v : Value} {zs : List Int} {a : Option Addr} {cap : Nat}, Ints w6 v zs → v = .slice a xs.length cap → zs.length = xs.length → ∃ b o, a = some ⟨b, o, none⟩ ∧ wr.cell? ⟨b, o + k, none⟩ = some (.int .i64 (zs.getD k 0)) := by
        intro v zs a cap h hv hlen
        obtain ⟨_, a', cap', hv', hc⟩ := h.below hbel
        rw [hv, hlen] at hv'
        simp only [Value.slice.injEq] at hv'
        obtain ⟨rfl, _, rfl⟩ := hv'
        obtain ⟨b, o, e, hcell⟩ := hc (by omega)
        exact ⟨b, o, e, hcell k (by omega)⟩
      obtain ⟨b1, o1, rfl, d1⟩ := rd q1.out rfl rfl
      obtain ⟨b3, o3, rfl, d3⟩ := rd q3.out rfl (walTo_length _ _)
      obtain ⟨b4, o4, rfl, d4⟩ := rd q4.out rfl (walTo_length _ _)
      obtain ⟨b6, o6, rfl, d6⟩ := rd q6.out rfl (walTo_length _ _)
      obtain ⟨b7, o7, rfl, d7⟩ := rd q7.out rfl (walTo_length _ _)
      rw [HSUM.out k hlt] at d6
      rw [HTW.out k hlt] at d7
      have HBEL := Lib.hid hbel
      clear rd HSUM HTW q1 q3 q4 q6 q7 hbel
      generalize xs.getD k 0 = x at *
      generalize (walTo xs xs.length).getD k 0 = p at *
      generalize (walTo ys xs.length).getD k 0 = q at *
      have j3 : (k : Int) < (xs.length : Int) := by omega
      generalize xs.length = n at *
      have CA : Hid (∀ m, Calls Try.prog 50 #[.int .i64 p, .int .i64 q] (wr.drewN m) fun e w' => e = .returned (.int .i64 (wrap32 (p + q))) ∧ wr.drewN m = w') := fun m => wrapAdd_any p q _
      have CM : Hid (∀ m, Calls Try.prog 51 #[.int .i64 x, .int .i64 n] (wr.drewN m) fun e w' => e = .returned (.int .i64 (wrap32 (x * (n : Int)))) ∧ wr.drewN m = w') := fun m => wrapMul_any x n _
      have HD := Lib.hid d6
      generalize wrap32 (p + q) = s1 at *
      generalize wrap32 (x * (n : Int)) = s2 at *
      go_wp2
      go_quiet (first | (go_at_call 50; exact quietS (CA.out _)) | (go_at_call 51; exact quietS (CM.out _)))
      go_wp2
      go_roundw
      case rel => exact ⟨k + 1, by omega, by go_num, below_drewN HBEL.out _⟩
      case measure => simp [intOf]; omega
    · have e : k = xs.length := by omega
      clear HSUM HTW
      subst e
      go_wp2
      go_ret
      exact ⟨rfl, B6.trans (hbel.mono B6.size)⟩

end Go.Proofs.Ytfpbnhghceoleaa
