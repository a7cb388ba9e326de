/-
  Contracts: at, addTimes; l03At, l03Add, l03Zeros, l00Max.
-/
import Derived.Test.YtfpbnhghceoleaaPick
import Derived.Test.YtfpbnhghceoleaaWrap
import Derived.Test.YtfpbnhghceoleaaZeros
namespace Go.Proofs.Ytfpbnhghceoleaa
open Go.RowKit

theorem at_any (v : Value) (xs : List Int) (i : Nat) (w : World) (h : Ints w v xs) :
    Calls Try.prog 148 #[v, .int .i64 i] w fun e w' => e = .returned (.int .i64 (xs.getD i 0)) ∧ w = w' := by
  have h0 := h
  obtain ⟨hl, a, cap, rfl, hc⟩ := h
  by_cases hi : i < xs.length
  · obtain ⟨b, o, rfl, hcell⟩ := hc (by omega)
    have d1 := hcell i hi
    generalize xs.getD i 0 = x at *
    clear hcell hc
    have j1 : ¬ (xs.length : Int) ≤ (i : Int) := by omega
    go_enter Try.func148, Try.ntmps148
    go_wp2_with (go_at_call 76; refine (size_any _ _ _ h0).mono ?_; rintro e w' ⟨rfl, rfl⟩)
    go_ret
    exact ⟨rfl, rfl⟩
  · have e : xs.getD i 0 = 0 := by simp [List.getD, List.getElem?_eq_none (Nat.le_of_not_lt hi)]
    rw [e]
    clear hc e
    have j1 : (xs.length : Int) ≤ (i : Int) := by omega
    go_enter Try.func148, Try.ntmps148
    go_wp2_with (go_at_call 76; refine (size_any _ _ _ h0).mono ?_; rintro e w' ⟨rfl, rfl⟩)
    go_ret
    exact ⟨rfl, rfl⟩

theorem l03At_any (v : Value) (xs : List Int) (i : Nat) (w : World) (h : Ints w v xs) :
    Calls Try.prog 150 #[v, .int .i64 i] w fun e w' => e = .returned (.int .i64 (xs.getD i 0)) ∧ w = w' := by
  obtain ⟨hl, a, cap, rfl, hc⟩ := h
  by_cases hi : i < xs.length
  · obtain ⟨b, o, rfl, hcell⟩ := hc (by omega)
    have d1 := hcell i hi
    generalize xs.getD i 0 = x at *
    clear hcell hc
    have j1 : inB (i : Int) 0 ((xs.length : Int) - 1) = true := inB_of (by omega)
    go_enter Try.func150, Try.ntmps150
    go_wp2_with (go_at_call 68; refine (l00In_val j1 _).mono ?_; rintro e w' ⟨rfl, rfl⟩)
    go_ret
    exact ⟨rfl, rfl⟩
  · have e : xs.getD i 0 = 0 := by simp [List.getD, List.getElem?_eq_none (Nat.le_of_not_lt hi)]
    rw [e]
    clear hc e
    have j1 : inB (i : Int) 0 ((xs.length : Int) - 1) = false := inB_not (by omega)
    go_enter Try.func150, Try.ntmps150
    go_wp2_with (go_at_call 68; refine (l00In_val j1 _).mono ?_; rintro e w' ⟨rfl, rfl⟩)
    go_ret
    exact ⟨rfl, rfl⟩

theorem l00Max_any (a b : Int) (w : World) :
    Calls Try.prog 149 #[.int .i64 a, .int .i64 b] w fun e w' => e = .returned (.int .i64 (max a b)) ∧ w = w' := by
  by_cases h : b < a
  · have e : max a b = a := by omega
    rw [e]
    clear e
    go_enter Try.func149, Try.ntmps149
    go_wp2
    go_ret
    exact ⟨rfl, rfl⟩
  · have e : max a b = b := by omega
    rw [e]
    clear e
    go_enter Try.func149, Try.ntmps149
    go_wp2
    go_ret
    exact ⟨rfl, rfl⟩

/-- The first k elements of one list plus a multiple of another one. -/
def addTo (xs ys : List Int) (g : Int) (k : Nat) : List Int := (List.range k).map fun i => wrap32 (xs.getD i 0 + g * ys.getD i 0)
theorem addTo_succ (xs ys : List Int) (g : Int) (k : Nat) : addTo xs ys g (k + 1) = addTo xs ys g k ++ [wrap32 (xs.getD k 0 + g * ys.getD k 0)] := by simp [addTo, List.range_succ]
@[simp] theorem addTo_length (xs ys : List Int) (g : Int) (k : Nat) : (addTo xs ys g k).length = k := by simp [addTo]
abbrev addT (xs ys : List Int) (g : Int) : List Int := addTo xs ys g (max xs.length ys.length)
theorem addT_in (xs ys : List Int) (g : Int) (k : Nat) : InR (addTo xs ys g k) := by
  intro x hx
  simp [addTo] at hx
  obtain ⟨i, _, rfl⟩ := hx
  have := wrap32_bd (xs[i]?.getD 0 + g * ys[i]?.getD 0)
  omega
theorem wr_im (x g y : Int) : wrap32 (wrap64 (x + wrap64 (g * y))) = wrap32 (x + g * y) := by unfold wrap32 wrap64; omega
theorem wr_sp (x g y : Int) : wrap32 (x + wrap32 (y * g)) = wrap32 (x + g * y) := by rw [Int.mul_comm y g]; unfold wrap32; omega

theorem addTimes_any (va vb : Value) (xs ys : List Int) (g : Int) (w : World) (h1 : Ints w va xs) (h2 : Ints w vb ys) (hx : xs.length ≤ 1048576) (hy : ys.length ≤ 1048576) :
    Calls Try.prog 114 #[va, .int .i64 g, vb] w fun e w' => ∃ v', e = .returned v' ∧ Own w' w.heap.size v' (addT xs ys g) ∧ Below w.heap.size w w' := by
  obtain ⟨N, hN⟩ : ∃ N, N = max xs.length ys.length := ⟨_, rfl⟩
  have hNb : N ≤ 1048576 := by omega
  have HN := Lib.hid hN
  have CZ : Hid (∀ m : Nat, m = N → Calls Try.prog 113 #[.int .i64 m] w fun e w' => ∃ v', e = .returned v' ∧ Own w' w.heap.size v' (List.replicate N 0) ∧ Below w.heap.size w w') := fun m hm => by subst hm; exact zeros_any m w (by omega)
  unfold addT
  rw [← hN]
  have H1 := Lib.hid h1
  have H2 := Lib.hid h2
  clear hN h1 h2
  go_enter Try.func114, Try.ntmps114
  go_wp2_with (go_at_call 76; first | (with_reducible refine (size_any _ _ _ H1.out).mono ?_; rintro e w' ⟨rfl, rfl⟩) | (with_reducible refine (size_any _ _ _ H2.out).mono ?_; rintro e w' ⟨rfl, rfl⟩))
  all_goals
    refine (CZ.out _ (by have := HN.out; omega)).mono ?_; rintro e w1 ⟨v1, rfl, o1, b1⟩
    obtain ⟨a1, c1, rfl, ha1, _⟩ := o1.shape1
    rw [List.length_replicate] at ha1 o1 ⊢
    clear HN CZ
    go_wp2
    go_loopw [17] (fun i wr => ∃ k : Nat, k ≤ N ∧ i = .int .i64 k ∧ ∃ zs : List Int, Hid (zs.length = N ∧ zs.take k = addTo xs ys g k) ∧ Own wr w.heap.size (.slice a1 N c1) zs ∧ Below w.heap.size w wr) (fun i _ => N - (intOf i).toNat)
    case atStart => exact ⟨0, Nat.zero_le _, rfl, List.replicate N 0, ⟨by simp, rfl⟩, o1, b1⟩
    case round =>
      obtain ⟨k, hk, rfl, zs, hzs, hown, hbel⟩ := hrel
      by_cases hlt : k < N
      · obtain ⟨gg, rfl⟩ := ha1 (by omega)
        have d3 := hown.cell k (by have := hzs.out.1; omega)
        have d4 := hown.unfrozen k
        have hgl := hown.base_le
        have C1 := Lib.hid (at_any va xs k wr (H1.out.below hbel))
        have C2 := Lib.hid (at_any vb ys k wr (H2.out.below hbel))
        have t2 : ∀ x, (zs.set k x).take (k + 1) = zs.take k ++ [x] := by
          intro x
          have hk' : k < (zs.set k x).length := by have := hzs.out.1; simp; omega
          rw [List.take_succ_eq_append_getElem hk', List.take_set, List.set_eq_of_length_le (by simp; omega)]; simp
        have T2 := Lib.hid t2; clear t2
        have hs := addTo_succ xs ys g k
        have HS := Lib.hid hs; clear hs
        have HO : Hid (∀ u, Own (wr.setCell ⟨gg, k, none⟩ (.int .i64 u)) w.heap.size (.slice (some ⟨gg, 0, none⟩) N c1) (zs.set k u)) := fun u => hown.set k u
        have HB : Hid (∀ u, Below w.heap.size w (wr.setCell ⟨gg, k, none⟩ (.int .i64 u))) := fun u => hbel.setCell (p := ⟨gg, k, none⟩) hgl.1 (.int .i64 u)
        have j1 : (k : Int) < (N : Int) := by omega
        generalize zs.getD k 0 = z at *
        generalize xs.getD k 0 = x at *
        generalize ys.getD k 0 = y at *
        clear hown hbel ha1
        go_wp2_with (first
          | (go_at_call 148; first | (with_reducible refine C1.out.mono ?_; rintro e w' ⟨rfl, rfl⟩) | (with_reducible refine C2.out.mono ?_; rintro e w' ⟨rfl, rfl⟩))
          | (go_at_call 94; refine (implWrap_any _ _).mono ?_; rintro e w' ⟨rfl, rfl⟩))
        go_roundw
        case rel => exact ⟨k + 1, by omega, by go_num, _, ⟨by have := hzs.out.1; simpa using this, by rw [T2.out, HS.out, hzs.out.2, wr_im]⟩, HO.out _, HB.out _⟩
        case measure => simp [intOf]; omega
      · have e : k = N := by omega
        subst e
        have e2 : zs = addTo xs ys g k := by
          have h1 := hzs.out.1
          have h2 := hzs.out.2
          rwa [List.take_of_length_le (by omega)] at h2
        subst e2
        clear ha1
        go_wp2
        go_ret
        exact ⟨_, rfl, hown, hbel⟩

theorem l03Add_any (va vb : Value) (xs ys : List Int) (g : Int) (w : World) (h1 : Ints w va xs) (h2 : Ints w vb ys) (hx : xs.length ≤ 1048576) (hy : ys.length ≤ 1048576) :
    Calls Try.prog 122 #[va, vb, .int .i64 g] w fun e w' => ∃ v', e = .returned v' ∧ Own w' w.heap.size v' (addT xs ys g) ∧ Below w.heap.size w w' := by
  obtain ⟨N, hN⟩ : ∃ N, N = max xs.length ys.length := ⟨_, rfl⟩
  have hmax : max (xs.length : Int) (ys.length : Int) = (N : Int) := by omega
  have hNb : N ≤ 1048576 := by omega
  unfold addT
  rw [← hN]
  have H1 := Lib.hid h1
  have H2 := Lib.hid h2
  obtain ⟨_, a1, c1, rfl, _⟩ := h1
  obtain ⟨_, a2, c2, rfl, _⟩ := h2
  have CM : Hid (Calls Try.prog 149 #[.int .i64 xs.length, .int .i64 ys.length] (w.alloc (.cells #[] 2)) fun e w' => e = .returned (.int .i64 N) ∧ (w.alloc (.cells #[] 2)) = w') := by
    have := l00Max_any (xs.length : Int) ys.length (w.alloc (.cells #[] 2)); rw [hmax] at this; exact this
  clear hN hmax
  go_enter Try.func122, Try.ntmps122
  go_wp2_with (go_at_call 149; refine CM.out.mono ?_; rintro e w' ⟨rfl, rfl⟩)
  go_loopw [7, 9] (fun out i wr => ∃ k : Nat, k ≤ N ∧ i = .int .i64 k ∧ Own wr w.heap.size out (addTo xs ys g k) ∧ Below w.heap.size w wr) (fun _ i _ => N - (intOf i).toNat)
  case atStart => exact ⟨0, Nat.zero_le _, rfl, Own.made, (Below.refl _ _).alloc (Nat.le_refl _) _⟩
  case round =>
    obtain ⟨k, hk, rfl, hown, hbel⟩ := hrel
    by_cases hlt : k < N
    · have C1 := Lib.hid (l03At_any _ xs k wr (H1.out.below hbel))
      have C2 := Lib.hid (l03At_any _ ys k wr (H2.out.below hbel))
      have hs := addTo_succ xs ys g k
      have HS := Lib.hid hs; clear hs
      generalize xs.getD k 0 = x at *
      generalize ys.getD k 0 = y at *
      have j1 : (k : Int) < (N : Int) := by omega
      go_wp2_with (first
        | (go_at_call 150; first | (with_reducible refine C1.out.mono ?_; rintro e w' ⟨rfl, rfl⟩) | (with_reducible refine C2.out.mono ?_; rintro e w' ⟨rfl, rfl⟩))
        | (go_at_call 115; refine (specMul_any _ _ _).mono ?_; rintro e w' ⟨rfl, rfl⟩)
        | (go_at_call 97; refine (specAdd_any _ _ _).mono ?_; rintro e w' ⟨rfl, rfl⟩)
        | (at_builtin; refine append_one rfl _ _ rfl _ _ _ rfl hown hbel rfl (by simp; omega) ?_; intro v' w1 hown1 hbel1))
      go_roundw
      case rel => exact ⟨k + 1, by omega, by go_num, by rw [HS.out, ← wr_sp]; exact hown1, hbel1⟩
      case measure => simp [intOf]; omega
    · have e : k = N := by omega
      subst e
      go_wp2
      go_ret
      exact ⟨_, rfl, hown, hbel⟩

theorem l03Zeros_any (N : Nat) (w : World) (hN : N ≤ 1048576) :
    Calls Try.prog 121 #[.int .i64 N] w fun e w' => ∃ v', e = .returned v' ∧ Own w' w.heap.size v' (List.replicate N 0) ∧ Below w.heap.size w w' := by
  go_enter Try.func121, Try.ntmps121
  go_wp2
  go_loopw [0, 3] (fun n out wr => ∃ k : Nat, k ≤ N ∧ n = .int .i64 ((N : Int) - k) ∧ Own wr w.heap.size out (List.replicate k 0) ∧ Below w.heap.size w wr) (fun n _ _ => (intOf n).toNat)
  case atStart => exact ⟨0, Nat.zero_le _, by simp, Own.made, (Below.refl _ _).alloc (Nat.le_refl _) _⟩
  case round =>
    obtain ⟨k, hk, rfl, hown, hbel⟩ := hrel
    by_cases hlt : k < N
    · have j1 : (0 : Int) < (N : Int) - k := by omega
      have hs : List.replicate (k + 1) (0 : Int) = List.replicate k 0 ++ [0] := List.replicate_succ'
      have HS := Lib.hid hs; clear hs
      go_wp2_with (at_builtin; refine append_one rfl _ _ rfl _ _ _ rfl hown hbel rfl (by simp; omega) ?_; intro v' w1 hown1 hbel1)
      go_roundw
      case rel => exact ⟨k + 1, by omega, by go_num, by rw [HS.out]; exact hown1, hbel1⟩
      case measure => simp [intOf]; omega
    · have e : k = N := by omega
      subst e
      have j1 : ¬ (0 : Int) < (k : Int) - k := by omega
      go_wp2
      go_ret
      exact ⟨_, rfl, hown, hbel⟩

end Go.Proofs.Ytfpbnhghceoleaa
