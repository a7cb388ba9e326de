/-
  DrawWaveTable: whatever the bytes, a kind from 0 to 5, a size and a peak out of two lists.
-/
import Derived.Test.YtbahhkpfbmlcjaaSrc
namespace Go.Proofs.Ytbahhkpfbmlcjaa
open Go.RowKit

theorem Own.madeL (w : World) (xs : List Int) (hl : xs.length ≤ 1000000) : Own (w.alloc (.cells (xs.map (Value.int .i64)).toArray 2)) w.heap.size (.slice (some ⟨w.heap.size, 0, none⟩) xs.length xs.length) xs := by
  exact ⟨by simp, .inr ⟨w.heap.size, xs.length, _, rfl, Nat.le_refl _, heap_alloc_new w _, Nat.le_refl _, by unfold maxLen; omega, by simp, by rw [List.take_of_length_le (by simp)]⟩⟩

theorem drawWave_any (v : Value) (bs : List Int) (w : World) (h : Nums .u8 w v bs) (hb : ∀ x ∈ bs, 0 ≤ x ∧ x ≤ 255) :
    Calls Try.prog 28 #[v] w fun e w' => ∃ a b c : Int, e = .returned (.tuple #[.int .i64 a, .int .i64 b, .int .i64 c]) ∧ (0 ≤ a ∧ a < 6) ∧ (-4 ≤ b ∧ b ≤ 32) ∧ (-1 ≤ c ∧ c ≤ 2147483648) ∧ Below w.heap.size w w' := by
  go_enter Try.func28, Try.ntmps28
  go_wp2_with fail
  refine (l00From_any v bs _ h hb).mono ?_; rintro e w1 ⟨rfl, s1, b1⟩
  go_wp2_with fail
  refine (pick_any 6 w.heap.size v bs 0 _ s1 (by omega) (by omega)).mono ?_; rintro e w2 ⟨a, rfl, ha, s2, g2⟩
  have b2 := b1.grown g2 b1.size (fun k hk => by simp at hk; omega)
  clear b1 g2 s1
  go_wp2_with fail
  have o2 := Own.madeL w2 [2, 4, 8, 16, 16, 8, 1, 3, 32, 0, -4] (by decide)
  have A2 := (Below.refl w2.heap.size w2).alloc (Nat.le_refl _) (.cells #[.int .i64 2, .int .i64 4, .int .i64 8, .int .i64 16, .int .i64 16, .int .i64 8, .int .i64 1, .int .i64 3, .int .i64 32, .int .i64 0, .int .i64 (-4)] 2)
  refine (among_any _ [2, 4, 8, 16, 16, 8, 1, 3, 32, 0, -4] w.heap.size v bs 2 w2.heap.size _ (s2.below A2) (by omega) o2 s2.lt (by decide)).mono ?_; rintro e w3 ⟨i, hi, rfl, s3, g3⟩
  have b3 := (b2.trans (A2.mono b2.size)).grown g3 (b2.trans (A2.mono b2.size)).size (fun k hk => by simp at hk; omega)
  have hbb : -4 ≤ ([2, 4, 8, 16, 16, 8, 1, 3, 32, 0, -4] : List Int).getD i 0 ∧ ([2, 4, 8, 16, 16, 8, 1, 3, 32, 0, -4] : List Int).getD i 0 ≤ 32 := by
    have : ∀ i, i < 11 → -4 ≤ ([2, 4, 8, 16, 16, 8, 1, 3, 32, 0, -4] : List Int).getD i 0 ∧ ([2, 4, 8, 16, 16, 8, 1, 3, 32, 0, -4] : List Int).getD i 0 ≤ 32 := by decide
    exact this i (by simpa using hi)
  clear o2 A2 g3 s2 b2 hi
  generalize ([2, 4, 8, 16, 16, 8, 1, 3, 32, 0, -4] : List Int).getD i 0 = b at *
  go_wp2_with fail
  have o3 := Own.madeL w3 [0, 1, 7, 30, 1000, 32767, 2147483647, 2147483648, -1] (by decide)
  have A3 := (Below.refl w3.heap.size w3).alloc (Nat.le_refl _) (.cells #[.int .i64 0, .int .i64 1, .int .i64 7, .int .i64 30, .int .i64 1000, .int .i64 32767, .int .i64 2147483647, .int .i64 2147483648, .int .i64 (-1)] 2)
  refine (among_any _ [0, 1, 7, 30, 1000, 32767, 2147483647, 2147483648, -1] w.heap.size v bs 4 w3.heap.size _ (s3.below A3) (by omega) o3 s3.lt (by decide)).mono ?_; rintro e w4 ⟨i, hi, rfl, s4, g4⟩
  have b4 := (b3.trans (A3.mono b3.size)).grown g4 (b3.trans (A3.mono b3.size)).size (fun k hk => by simp at hk; omega)
  have hcc : -1 ≤ ([0, 1, 7, 30, 1000, 32767, 2147483647, 2147483648, -1] : List Int).getD i 0 ∧ ([0, 1, 7, 30, 1000, 32767, 2147483647, 2147483648, -1] : List Int).getD i 0 ≤ 2147483648 := by
    have : ∀ i, i < 9 → -1 ≤ ([0, 1, 7, 30, 1000, 32767, 2147483647, 2147483648, -1] : List Int).getD i 0 ∧ ([0, 1, 7, 30, 1000, 32767, 2147483647, 2147483648, -1] : List Int).getD i 0 ≤ 2147483648 := by decide
    exact this i (by simpa using hi)
  clear o3 A3 g4 s3 s4 b3 hi
  generalize ([0, 1, 7, 30, 1000, 32767, 2147483647, 2147483648, -1] : List Int).getD i 0 = c at *
  go_wp2
  refine bodyPost_ret (v := .tuple #[.int .i64 a, .int .i64 b, .int .i64 c]) (by simp [results, Try.results28, go_sem]) rfl ⟨a, b, c, rfl, ha, hbb, hcc, b4⟩

end Go.Proofs.Ytbahhkpfbmlcjaa
