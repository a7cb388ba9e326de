/-
 RenderWave of both sides, and its law.
-/
import Derived.Test.YtflaacndokbddaaDoorPick
import Derived.Test.YtflaacndokbddaaDoorIndex
import Derived.Test.YtflaacndokbddaaDoorWrap
import Derived.Test.YtflaacndokbddaaDoorLine
namespace Go.Proofs.YtflaacndokbddaaDoor
open Go.RowKit

def rendTo (xs : List Int) (s d : Int) (k : Nat) : List Int := (List.range k).map fun (i : Nat) => xs.getD (idxF (wrap32 (s + d * (i : Int))) xs.length).toNat 0
theorem rendTo_succ (xs : List Int) (s d : Int) (k : Nat) : rendTo xs s d (k + 1) = rendTo xs s d k ++ [xs.getD (idxF (wrap32 (s + d * (k : Int))) xs.length).toNat 0] := by simp [rendTo, List.range_succ]
@[simp] theorem rendTo_length (xs : List Int) (s d : Int) (k : Nat) : (rendTo xs s d k).length = k := by simp [rendTo]
def RendF (xs : List Int) (s d n : Int) : List Int × Int :=
 if waveB xs = true then (if (inB s (-2147483648) 2147483647 && inB d (-2147483648) 2147483647 && inB n 0 4000) = true then (rendTo xs s d n.toNat, 0) else ([], 2)) else ([], 1)
theorem rendF_len (xs : List Int) (s d n : Int) : (RendF xs s d n).1.length ≤ 1048576 := by
 unfold RendF
 split
 · split
   · rename_i h; simp only [Bool.and_eq_true, inB_true] at h; simp; omega
   · simp
 · simp

theorem implIndex_val {p n j : Int} (hj : idxF p n = j) (h : szB n = true) (w : World) :
 Calls Tryd.prog 12 #[.int .i64 p, .int .i64 n] w fun e w' => e = .returned (.tuple #[.int .i64 j, .int .i64 0]) ∧ w = w' := by
 subst hj
 refine (implIndex_any p n w).mono ?_
 rintro e w' ⟨rfl, rfl⟩
 exact ⟨ret_int2 (by simp [IndexF, h]) (by simp [IndexF, h]), rfl⟩

theorem implRend_any (v : Value) (xs : List Int) (s d n : Int) (w : World) (h : Ints w v xs) :
 Calls Tryd.prog 11 #[v, .int .i64 s, .int .i64 d, .int .i64 n] w fun e w' =>
  ∃ v', e = .returned (.tuple #[v', .int .i64 (RendF xs s d n).2]) ∧ Own w' w.heap.size v' (RendF xs s d n).1 ∧ Below w.heap.size w w' := by
 have h0 := h
 obtain ⟨hl, a, cap, rfl, hc⟩ := h
 cases h1 : waveB xs
 · go_enter Tryd.func11, Tryd.ntmps11
   go_wp2_with (go_at_call 21; refine (isWave_any _ _ _ h0).mono ?_; rintro e w' ⟨rfl, rfl⟩)
   go_ret2
   exact ⟨_, ret_li (by simp [RendF, h1]), by simp only [RendF, h1]; exact Own.nil _ _, Below.refl _ _⟩
 by_cases h2 : (inB s (-2147483648) 2147483647 && inB d (-2147483648) 2147483647 && inB n 0 4000) = true
 case neg =>
  have e1 : RendF xs s d n = ([], 2) := by unfold RendF; rw [if_pos h1, if_neg h2]
  rw [e1]
  cases k1 : inB s (-2147483648) 2147483647
  · go_enter Tryd.func11, Tryd.ntmps11
    go_wp2_with (first | (go_at_call 21; refine (isWave_any _ _ _ h0).mono ?_; rintro e w' ⟨rfl, rfl⟩) | (go_at_call 22; refine (isSample_any _ _).mono ?_; rintro e w' ⟨rfl, rfl⟩))
    go_ret2
    exact ⟨_, rfl, Own.nil _ _, Below.refl _ _⟩
  cases k2 : inB d (-2147483648) 2147483647
  · go_enter Tryd.func11, Tryd.ntmps11
    go_wp2_with (first | (go_at_call 21; refine (isWave_any _ _ _ h0).mono ?_; rintro e w' ⟨rfl, rfl⟩) | (go_at_call 22; refine (isSample_any _ _).mono ?_; rintro e w' ⟨rfl, rfl⟩))
    go_ret2
    exact ⟨_, rfl, Own.nil _ _, Below.refl _ _⟩
  have k3 : inB n 0 4000 = false := by simpa [k1, k2] using h2
  go_enter Tryd.func11, Tryd.ntmps11
  go_wp2_with (first | (go_at_call 21; refine (isWave_any _ _ _ h0).mono ?_; rintro e w' ⟨rfl, rfl⟩) | (go_at_call 22; refine (isSample_any _ _).mono ?_; rintro e w' ⟨rfl, rfl⟩) | (go_at_call 23; refine (isCount_any _ _).mono ?_; rintro e w' ⟨rfl, rfl⟩))
  go_ret2
  exact ⟨_, rfl, Own.nil _ _, Below.refl _ _⟩
 have e0 : RendF xs s d n = (rendTo xs s d n.toNat, 0) := by unfold RendF; rw [if_pos h1, if_pos h2]
 rw [e0]; clear e0
 simp only [Bool.and_eq_true] at h2
 obtain ⟨⟨k1, k2⟩, k3⟩ := h2
 have hn := inB_true.1 k3
 obtain ⟨N, rfl⟩ := Int.eq_ofNat_of_zero_le hn.1
 rw [Int.toNat_natCast]
 have hsz : szB xs.length = true := by have := h1; simp [waveB] at this; exact this.1
 go_enter Tryd.func11, Tryd.ntmps11
 go_wp2_with (first | (go_at_call 21; refine (isWave_any _ _ _ h0).mono ?_; rintro e w' ⟨rfl, rfl⟩) | (go_at_call 22; refine (isSample_any _ _).mono ?_; rintro e w' ⟨rfl, rfl⟩) | (go_at_call 23; refine (isCount_any _ _).mono ?_; rintro e w' ⟨rfl, rfl⟩))
 go_loopw [10, 32] (fun out i wr => ∃ k : Nat, k ≤ N ∧ i = .int .i64 k ∧ Own wr w.heap.size out (rendTo xs s d k) ∧ Below w.heap.size w wr) (fun _ i _ => N - (intOf i).toNat)
 case atStart => exact ⟨0, Nat.zero_le _, rfl, Own.made, (Below.refl _ _).alloc (Nat.le_refl _) _⟩
 case round =>
  obtain ⟨k, hk, rfl, hown, hbel⟩ := hrel
  by_cases hlt : k < N
  · have h0' := h0.below hbel
    have hix := idxF_bd (p := wrap32 (s + d * (k : Int))) hsz
    have hsucc := rendTo_succ xs s d k
    obtain ⟨j, hj⟩ := Int.eq_ofNat_of_zero_le hix.1
    rw [hj] at hsucc hix
    simp only [Int.toNat_natCast] at hsucc
    obtain ⟨hl', a', cap', hv', hc'⟩ := h0.below hbel
    obtain ⟨b2, o2, ha', hcell⟩ := hc' (by have := hix.2; omega)
    obtain ⟨rfl, rfl⟩ : a = some ⟨b2, o2, none⟩ ∧ cap = cap' := by simp at hv'; exact ⟨hv'.1.trans ha', hv'.2⟩
    have hj2 : j < xs.length := by have := hix.2; omega
    have d1 := hcell j hj2
    clear hcell hc' hv' hc ha' hix
    generalize xs.getD j 0 = y at *
    have HS := Lib.hid hsucc; clear hsucc
    have HJ := Lib.hid hj; clear hj
    go_wp2_with (first
     | (go_at_call 7; refine (implPhaseAfter_any _ _ _ _).mono ?_; rintro e w' ⟨rfl, rfl⟩)
     | (go_at_call 24; refine (size_any _ _ _ h0').mono ?_; rintro e w' ⟨rfl, rfl⟩)
     | (go_at_call 12; refine (implIndex_val HJ.out hsz _).mono ?_; rintro e w' ⟨rfl, rfl⟩)
     | (at_builtin; refine append_one rfl _ _ rfl _ _ _ rfl hown hbel rfl (by simp; omega) ?_; intro v' w1 hown1 hbel1))
    go_roundw
    case rel => exact ⟨k + 1, by omega, by go_num, by rw [HS.out]; exact hown1, hbel1⟩
    case measure => simp [intOf]; omega
  · have e : k = N := by omega
    subst e
    go_wp2
    go_ret2
    exact ⟨_, rfl, hown, hbel⟩



end Go.Proofs.YtflaacndokbddaaDoor
