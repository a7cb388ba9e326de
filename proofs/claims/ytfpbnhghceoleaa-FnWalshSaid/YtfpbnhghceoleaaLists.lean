/-
  Slices of slices of int64: read, and of the call's own; to, eq, sz, mark, held of [][]int64.
-/
import Derived.Test.YtfpbnhghceoleaaObj
import Derived.Test.YtfpbnhghceoleaaSeq2
namespace Go.Proofs.Ytfpbnhghceoleaa
open Go.RowKit

/-- In the world w the slice v reads as this list of lists. -/
def Lists (w : World) (v : Value) (xss : List (List Int)) : Prop :=
  xss.length ≤ 9223372036854775807 ∧ ∃ a cap, v = .slice a xss.length cap ∧ (0 < xss.length → ∃ b off, a = some ⟨b, off, none⟩ ∧ ∀ i, i < xss.length → ∃ u, w.cell? ⟨b, off + i, none⟩ = some u ∧ Ints w u (xss.getD i []))
theorem Lists.below {w w' : World} {v : Value} {xss : List (List Int)} (h : Lists w v xss) (hb : Below w.heap.size w w') : Lists w' v xss := by
  obtain ⟨hl, a, cap, hv, hc⟩ := h
  refine ⟨hl, a, cap, hv, fun h0 => ?_⟩
  obtain ⟨b, off, ha, hcell⟩ := hc h0
  refine ⟨b, off, ha, fun i hi => ?_⟩
  obtain ⟨u, h1, h2⟩ := hcell i hi
  exact ⟨u, (hb.cell (p := ⟨b, off + i, none⟩) (World.block_lt_of_cell? w _ h1)).trans h1, h2.below hb⟩
theorem Lists.nil (w : World) : Lists w (.slice none 0 0) [] := ⟨by simp, none, 0, rfl, fun h => by simp at h⟩

/-- How many numbers the first k lists hold. -/
def tot (xss : List (List Int)) (k : Nat) : Nat := ((xss.take k).map List.length).sum
def total (xss : List (List Int)) : Nat := tot xss xss.length
theorem tot_zero (xss : List (List Int)) : tot xss 0 = 0 := by simp [tot]
theorem tot_succ {xss : List (List Int)} {k : Nat} (hk : k < xss.length) : tot xss (k + 1) = tot xss k + (xss.getD k []).length := by
  unfold tot
  rw [List.take_succ_eq_append_getElem hk, List.map_append, List.sum_append]
  simp [List.getD, hk]
theorem tot_le (xss : List (List Int)) {k j : Nat} (h : k ≤ j) (hj : j ≤ xss.length) : tot xss k ≤ tot xss j := by
  induction j with
  | zero => have : k = 0 := by omega
            subst this; exact Nat.le_refl _
  | succ j ih =>
    by_cases e : k = j + 1
    · subst e; exact Nat.le_refl _
    · have := ih (by omega) (by omega)
      rw [tot_succ (by omega)]; omega
theorem len_le_total (xss : List (List Int)) (i : Nat) : (xss.getD i []).length ≤ total xss := by
  by_cases hi : i < xss.length
  · have h1 := tot_succ hi
    have h2 := tot_le xss (k := i + 1) (j := xss.length) (by omega) (Nat.le_refl _)
    unfold total; omega
  · simp [List.getD, List.getElem?_eq_none (Nat.le_of_not_lt hi)]
theorem lists_ext {xss yss : List (List Int)} (h : xss.length = yss.length) (hj : ∀ j, j < xss.length → xss.getD j [] = yss.getD j []) : xss = yss := by
  apply List.ext_getElem h
  intro i h1 h2
  have := hj i h1
  simpa [List.getD, h1, h2] using this

/-- m, m + 1, .. over lists of these lengths. -/
def seqL (m : Int) (xss : List (List Int)) : List (List Int) := (List.range xss.length).map fun j => seqI (m + (tot xss j : Nat)) (xss.getD j []).length
@[simp] theorem seqL_length (m : Int) (xss : List (List Int)) : (seqL m xss).length = xss.length := by simp [seqL]
theorem seqL_getD (m : Int) {xss : List (List Int)} {j : Nat} (h : j < xss.length) : (seqL m xss).getD j [] = seqI (m + (tot xss j : Nat)) (xss.getD j []).length := by simp [seqL, List.getD, h]

/-- A slice of slices of the call's own, of which the first k are laid. -/
structure ListsU (k lo : Nat) (v : Value) (us : List Value) (xss : List (List Int)) (w : World) : Prop where
  row : w.ownsRow lo 30 1 v xss.length us
  each : ∀ i, i < k → ∃ u, us[i]? = some u ∧ Own w lo u (xss.getD i [])
  apart : ∀ i u, i < k → us[i]? = some u → ∀ g, u.ownBlock = some g → v.ownBlock ≠ some g ∧ ∀ j u', j < k → us[j]? = some u' → j ≠ i → u'.ownBlock ≠ some g
/-- A slice of slices in blocks from lo to hi, each of its own. -/
def ListsR (lo hi : Nat) (v : Value) (xss : List (List Int)) (w : World) : Prop :=
  ∃ us, ListsU xss.length lo v us xss w ∧ (∀ g, v.ownBlock = some g → g < hi) ∧ ∀ (i : Nat) (u : Value) (g : Nat), us[i]? = some u → u.ownBlock = some g → g < hi

section
variable {k lo hi : Nat} {v : Value} {us : List Value} {xss : List (List Int)} {w w' : World}
theorem ListsU.uslen (h : ListsU k lo v us xss w) : us.length = xss.length := by have := h.row.1; omega
theorem ListsU.len (h : ListsU k lo v us xss w) : xss.length ≤ 9223372036854775807 := by
  rcases h.row.2 with ⟨_, h⟩ | ⟨g, cap, cur, _, _, _, hn, hm, _⟩
  · rw [h]; omega
  · unfold maxLen at hm; omega
theorem ListsU.shape1 (h : ListsU k lo v us xss w) : ∃ a cap, v = .slice a xss.length cap ∧ (0 < xss.length → ∃ g, a = some ⟨g, 0, none⟩) ∧ v.ownBlock = a.map (·.block) := by
  rcases h.row.2 with ⟨rfl, h0⟩ | ⟨g, cap, cur, hv, hb, hg, hn, hm, hs, ht⟩
  · exact ⟨none, 0, by rw [h0], fun h => by omega, rfl⟩
  · exact ⟨_, cap, hv, fun _ => ⟨g, rfl⟩, by rw [hv]; rfl⟩
theorem ListsR.read (h : ListsR lo hi v xss w) : Lists w v xss := by
  obtain ⟨us, hu, _⟩ := h
  refine ⟨hu.len, ?_⟩
  obtain ⟨a, cap, rfl, ha, _⟩ := hu.shape1
  refine ⟨a, cap, rfl, fun h0 => ?_⟩
  obtain ⟨g, rfl⟩ := ha h0
  refine ⟨g, 0, rfl, fun i hi => ?_⟩
  obtain ⟨u, h1, h2⟩ := hu.each i hi
  exact ⟨u, by rw [Nat.zero_add, hu.row.cellAt i (by omega), h1], h2.ints⟩
theorem ListsU.keep (h : ListsU k lo v us xss w) (hk : ∀ i, lo ≤ i → i < w.heap.size → ((v.ownBlock = some i ∨ ∃ j u, j < k ∧ us[j]? = some u ∧ u.ownBlock = some i) → w'.heap[i]? = w.heap[i]?)) : ListsU k lo v us xss w' := by
  refine ⟨⟨h.row.1, ?_⟩, fun i hi => ?_, h.apart⟩
  · rcases h.row.2 with h2 | ⟨g, cap, cur, hv, hg, hgg, r⟩
    · exact .inl h2
    · exact .inr ⟨g, cap, cur, hv, hg, by rw [hk g hg (Array.getElem?_eq_some_iff.1 hgg).1 (.inl (by rw [hv]; rfl))]; exact hgg, r⟩
  · obtain ⟨u, h1, h2⟩ := h.each i hi
    refine ⟨u, h1, h2.1, ?_⟩
    rcases h2.2 with h3 | ⟨g, cap, cur, hv, hg, hgg, r⟩
    · exact .inl h3
    · exact .inr ⟨g, cap, cur, hv, hg, by rw [hk g hg (Array.getElem?_eq_some_iff.1 hgg).1 (.inr ⟨i, u, hi, h1, by rw [hv]; rfl⟩)]; exact hgg, r⟩
theorem ListsU.below (h : ListsU k lo v us xss w) (hb : Below w.heap.size w w') : ListsU k lo v us xss w' := h.keep fun i _ hi _ => hb.block i hi
theorem ListsR.obj (h : ListsR lo hi v xss w) (hh : hi ≤ w.heap.size) : Obj lo hi (ListsR lo hi v xss) w := by
  refine ⟨hh, fun w' hk hs => ?_⟩
  obtain ⟨us, hu, h1, h2⟩ := h
  refine ⟨us, hu.keep fun i hl _ ho => hk i hl ?_, h1, h2⟩
  rcases ho with ho | ⟨j, u, _, hj, ho⟩
  · exact h1 i ho
  · exact h2 j u i hj ho
theorem ListsR.objR (h : ListsR lo w.heap.size v xss w) : Obj lo w.heap.size (ListsR lo w.heap.size v xss) w := h.obj (Nat.le_refl _)
theorem Lists.obj (h : Lists w v xss) : Obj 0 w.heap.size (fun w => Lists w v xss) w := by
  refine ⟨Nat.le_refl _, fun w' hk hs => ?_⟩
  obtain ⟨hl, a, cap, hv, hc⟩ := h
  refine ⟨hl, a, cap, hv, fun h0 => ?_⟩
  obtain ⟨b, off, ha, hcell⟩ := hc h0
  refine ⟨b, off, ha, fun i hi => ?_⟩
  obtain ⟨u, h1, h2⟩ := hcell i hi
  exact ⟨u, (World.cell?_of_block (w := w) (a := ⟨b, off + i, none⟩) (hk b (Nat.zero_le _) (World.block_lt_of_cell? w _ h1))).trans h1, h2.obj.all w' hk hs⟩
/-- A new row is laid. -/
theorem ListsU.put {g n cap : Nat} {u : Value} (h : ListsU k lo (.slice (some ⟨g, 0, none⟩) n cap) us xss w) (hk : k < xss.length) (hg : lo ≤ g ∧ g < w.heap.size) (hu : Own w' w.heap.size u (xss.getD k [])) (hb : Below w.heap.size w w') :
    ListsU (k + 1) lo (.slice (some ⟨g, 0, none⟩) n cap) (us.set k u) xss (w'.setCell ⟨g, k, none⟩ u) := by
  have h' := h.below hb
  have en : n = xss.length := by
    rcases h.row.2 with ⟨hv, _⟩ | ⟨g', cap', cur, hv, _⟩
    · simp at hv
    · simp at hv; omega
  have hul := h.uslen
  have ho : ∀ i, i < w'.heap.size → i ≠ g → (w'.setCell ⟨g, k, none⟩ u).heap[i]? = w'.heap[i]? := fun i hi hne => (grown_set w' g k u).block i hi (fun e => hne (Option.some.inj e))
  refine ⟨by have := h'.row; subst en; exact (World.ownsRow.stored this k u).1, fun i hi => ?_, fun i u1 hi h1 x hx => ?_⟩
  · by_cases e : i = k
    · subst e
      refine ⟨u, List.getElem?_set_self (by omega), ?_⟩
      refine (hu.mono (by omega)).keep (grown_set w' g i u) fun x hx => ?_
      intro e
      have := (hu.blk x hx).1
      have := Option.some.inj e
      omega
    · obtain ⟨u1, h1, h2⟩ := h'.each i (by omega)
      refine ⟨u1, by rw [List.getElem?_set_ne (by omega)]; exact h1, h2.keep (grown_set w' g k u) fun x hx => ?_⟩
      exact (h.apart i u1 (by omega) h1 x hx).1
  · by_cases e : i = k
    · subst e
      have : u1 = u := by rw [List.getElem?_set_self (by omega)] at h1; exact (Option.some.inj h1).symm
      subst this
      have hb2 := (hu.blk x hx).1
      refine ⟨?_, fun j u2 hj h2 hne e2 => ?_⟩
      · intro e2
        have : g = x := by simpa [Value.ownBlock] using e2
        omega
      · rw [List.getElem?_set_ne (by omega)] at h2
        obtain ⟨u3, h3, h4⟩ := h.each j (by omega)
        rw [h2] at h3
        cases h3
        have := (h4.blk x e2).2
        omega
    · rw [List.getElem?_set_ne (by omega)] at h1
      refine ⟨(h.apart i u1 (by omega) h1 x hx).1, fun j u2 hj h2 hne e2 => ?_⟩
      by_cases e3 : j = k
      · subst e3
        have : u2 = u := by rw [List.getElem?_set_self (by omega)] at h2; exact (Option.some.inj h2).symm
        subst this
        obtain ⟨u3, h3, h4⟩ := h.each i (by omega)
        rw [h1] at h3
        cases h3
        have := (h4.blk x hx).2
        have := (hu.blk x e2).1
        omega
      · rw [List.getElem?_set_ne (by omega)] at h2
        exact (h.apart i u1 (by omega) h1 x hx).2 j u2 (by omega) h2 hne e2
/-- A row is written anew, in its block. -/
theorem ListsU.marked {i : Nat} {u : Value} {ys : List Int} (h : ListsU xss.length lo v us xss w) (hi : i < xss.length) (hu : us[i]? = some u) (ho : Own w' lo u ys) (hg : w.grownBy w' u.ownBlock) :
    ListsU (xss.set i ys).length lo v us (xss.set i ys) w' := by
  rw [List.length_set]
  refine ⟨by rw [List.length_set]; exact h.row.kept hg (by
      cases hv : v.ownBlock with
      | none => exact .inl rfl
      | some g => right; intro e; exact (h.apart i u hi hu g e.symm).1 hv), fun j hj => ?_, h.apart⟩
  by_cases e : j = i
  · subst e
    refine ⟨u, hu, ?_⟩
    rw [show (xss.set j ys).getD j [] = ys by simp [List.getD, hj]]
    exact ho
  · obtain ⟨u1, h1, h2⟩ := h.each j hj
    refine ⟨u1, h1, ?_⟩
    rw [show (xss.set i ys).getD j [] = xss.getD j [] by simp [List.getD, List.getElem?_set_ne (Ne.symm e)]]
    refine h2.keep hg fun x hx e2 => ?_
    exact (h.apart i u hi hu x e2).2 j u1 hj h1 e hx
end

theorem infoS : (Try.prog.info? 30).map (fun i => (i.zero, i.size, i.bytes)) = some (some (.slice none 0 0), 1, 24) := by kernel_rfl

theorem toInt64SS_any (v : Value) (xss : List (List Int)) (w : World) (h : Lists w v xss) (hb : xss.length ≤ 1048576) (hbe : ∀ i, (xss.getD i []).length ≤ 1048576) :
    Calls Try.prog 58 #[v] w fun e w' => ∃ v', e = .returned v' ∧ ListsR w.heap.size w'.heap.size v' xss w' ∧ Below w.heap.size w w' := by
  have HIN := Lib.hid h
  obtain ⟨hl, a, cap, rfl, hc⟩ := h
  obtain ⟨i0, hi, hz0, hz1, hz2⟩ := info_parts infoS
  have HBE := Lib.hid hbe
  clear hbe
  go_enter Try.func58, Try.ntmps58
  go_wp2_with (at_make; refine wpList_make_full _ rfl (.tmp 6) (.tmp 6) 76 rfl w.heap.size 30 i0 (.slice none 0 0) 1 Try.underlying76 hi hz0 hz1 .i64 .i64 _ _ xss.length rfl rfl rfl rfl (by rw [hz2]; omega) (by unfold maxLen; omega) (Nat.le_refl _) ?_; intro w1 hown hgrow)
  have hO : ListsU 0 w.heap.size (.slice (some ⟨w.heap.size, 0, none⟩) xss.length xss.length) (List.replicate xss.length (.slice none 0 0)) xss w1 := by
    refine ⟨?_, fun i hi => by omega, fun i _ hi => by omega⟩
    have := hown; simp only [Value.cells, Nat.mul_one] at this; rw [toList_madeCells_one] at this; simpa using this
  have hB : Below w.heap.size w w1 := (Below.refl _ _).grown hgrow (Nat.le_refl _) (fun k hk => by cases hk)
  have hS : w.heap.size < w1.heap.size := (World.ownsRow.lt hO.row w.heap.size rfl).2
  clear hown hgrow hi hz0 hz1 hz2
  go_loopw [4] (fun i wr => ∃ k : Nat, k ≤ xss.length ∧ i = .int .i64 k ∧ ∃ us : List Value, ListsU k w.heap.size (.slice (some ⟨w.heap.size, 0, none⟩) xss.length xss.length) us xss wr ∧ Below w.heap.size w wr ∧ w.heap.size < wr.heap.size) (fun i _ => xss.length - (intOf i).toNat)
  case atStart => exact ⟨0, Nat.zero_le _, rfl, _, hO, hB, hS⟩
  case round =>
    obtain ⟨k, hk, rfl, us, hown, hbel, hsz⟩ := hrel
    by_cases hlt : k < xss.length
    · obtain ⟨b, o, rfl, hcell⟩ := hc (by omega)
      obtain ⟨u, d1, d0⟩ := hcell k hlt
      have d2 := (hbel.cell (p := ⟨b, o + k, none⟩) (World.block_lt_of_cell? w _ d1)).trans d1
      have CT := Lib.hid (toInt64S_any u _ wr (d0.below hbel) (HBE.out k))
      have hput := Lib.hid (fun u' w' (hu : Own w' wr.heap.size u' (xss.getD k [])) (hb : Below wr.heap.size wr w') => hown.put hlt ⟨Nat.le_refl _, hsz⟩ hu hb)
      have hrow := hown.row
      have hul := hown.uslen
      have HRW := Lib.hid hrow
      have j1 : (k : Int) < (xss.length : Int) := by omega
      clear hcell hc d1 d0 hrow
      go_wp2_with fail
      refine CT.out.mono ?_; rintro e w2 ⟨u', rfl, o2, b2⟩
      have hP := Lib.hid (hput.out u' w2 o2 b2)
      obtain ⟨a', c', rfl, _, _⟩ := o2.shape1
      have hR2 : w2.ownsRow w.heap.size 30 1 (.slice (some ⟨w.heap.size, 0, none⟩) xss.length xss.length) xss.length us := HRW.out.kept (grown_of_below (r := none) b2) (.inr (by simp [Value.ownBlock]))
      have d3 := hR2.cellAt k (by omega)
      have d4 := hR2.frozenAt k
      rw [List.getElem?_eq_getElem (by omega)] at d3
      generalize us[k] = old at d3
      have hbel' := (hbel.trans (b2.mono hbel.size)).setCell (p := ⟨w.heap.size, k, none⟩) (Nat.le_refl _) (.slice a' (xss.getD k []).length c')
      have hsz' : w.heap.size < (w2.setCell ⟨w.heap.size, k, none⟩ (.slice a' (xss.getD k []).length c')).heap.size := by
        have := b2.size; simp; omega
      generalize (xss.getD k []).length = lx at *
      clear o2 b2 hR2 hown hbel
      go_wp2
      go_roundw
      case rel => exact ⟨k + 1, by omega, by go_num, _, hP.out, hbel', hsz'⟩
      case measure => simp [intOf]; omega
    · have e : k = xss.length := by omega
      subst e
      clear hc
      go_wp2
      go_ret
      refine ⟨_, rfl, ⟨us, hown, fun g hg => ?_, fun i u g hi hu => ?_⟩, hbel⟩
      · have : w.heap.size = g := by simpa [Value.ownBlock] using hg
        omega
      · have hil : i < xss.length := by have := (List.getElem?_eq_some_iff.1 hi).1; rw [hown.uslen] at this; exact this
        obtain ⟨u1, h1, h2⟩ := hown.each i hil
        rw [hi] at h1
        cases h1
        exact (h2.blk g hu).2

/-- What is left of m behind n. -/
def szT (n : Nat) (m : Int) : Int := if m - n < 0 then -1 else m - n
theorem szInt64S_any (v : Value) (xs : List Int) (m : Int) (w : World) (h : Ints w v xs) (hm : 0 ≤ m ∧ m ≤ 1048576) :
    Calls Try.prog 120 #[v, .int .i64 m] w fun e w' => e = .returned (.int .i64 (szT xs.length m)) ∧ w = w' := by
  obtain ⟨hl, a, cap, rfl, hc⟩ := h
  clear hc
  by_cases h : m - xs.length < 0
  · go_enter Try.func120, Try.ntmps120
    go_wp2
    go_ret
    exact ⟨ret_int (by simp [szT, h]), rfl⟩
  · have h' : 0 ≤ m - (xs.length : Int) := by omega
    go_enter Try.func120, Try.ntmps120
    go_wp2
    go_ret
    exact ⟨ret_int (by simp [szT]; omega), rfl⟩

theorem szInt64SS_any (v : Value) (xss : List (List Int)) (m : Int) (w : World) (h : Lists w v xss) (hm : 0 ≤ m ∧ m ≤ 1048576) :
    Calls Try.prog 56 #[v, .int .i64 m] w fun e w' => e = .returned (.int .i64 (szT (xss.length + total xss) m)) ∧ w = w' := by
  obtain ⟨hl, a, cap, rfl, hc⟩ := h
  obtain ⟨r, hr⟩ : ∃ r, r = szT (xss.length + total xss) m := ⟨_, rfl⟩
  rw [← hr]
  have HR := Lib.hid hr; clear hr
  by_cases h : m - xss.length < 0
  · have hneg : r = -1 := by rw [HR.out]; unfold szT; rw [if_pos (by omega)]
    have HN := Lib.hid hneg
    clear hc hneg
    go_enter Try.func56, Try.ntmps56
    go_wp2
    go_ret
    exact ⟨ret_int HN.out.symm, rfl⟩
  · have h' : 0 ≤ m - (xss.length : Int) := by omega
    go_enter Try.func56, Try.ntmps56
    go_wp2
    go_loop [1, 5] (fun c i => ∃ k : Nat, k ≤ xss.length ∧ i = .int .i64 k ∧ c = .int .i64 (m - xss.length - (tot xss k : Nat)) ∧ 0 ≤ m - xss.length - (tot xss k : Nat)) (fun _ i => xss.length - (intOf i).toNat)
    case atStart => exact ⟨0, Nat.zero_le _, rfl, by simp [tot_zero], by simp [tot_zero]; omega⟩
    case round =>
      obtain ⟨k, hk, rfl, rfl, hp⟩ := hrel
      by_cases hlt : k < xss.length
      · obtain ⟨b, o, rfl, hcell⟩ := hc (by omega)
        obtain ⟨u, d1, d0⟩ := hcell k hlt
        have ht := tot_succ hlt
        have hle := tot_le xss (k := k + 1) (j := xss.length) (by omega) (Nat.le_refl _)
        have hT : total xss = tot xss xss.length := rfl
        have CS := Lib.hid (szInt64S_any u _ (m - xss.length - (tot xss k : Nat)) w d0 (by omega))
        have HT := Lib.hid ht
        have HL := Lib.hid hle
        have HTT := Lib.hid hT
        generalize (xss.getD k []).length = lx at *
        generalize tot xss k = tk at *
        have j1 : (k : Int) < (xss.length : Int) := by omega
        clear hcell hc d0 ht hle hT
        by_cases hneg : m - (xss.length : Int) - (tk : Int) - (lx : Int) < 0
        · have e1 : szT lx (m - xss.length - tk) = -1 := by unfold szT; rw [if_pos (by omega)]
          rw [e1] at CS
          clear e1
          go_wp2_with fail
          refine CS.out.mono ?_; rintro e w1 ⟨rfl, rfl⟩
          go_wp2
          go_ret
          refine ⟨ret_int ?_, rfl⟩
          rw [HR.out]
          have h1 := HT.out
          have h2 := HL.out
          have h3 := HTT.out
          unfold szT
          rw [if_pos (by omega)]
        · have e1 : szT lx (m - xss.length - tk) = m - xss.length - tk - lx := by unfold szT; rw [if_neg (by omega)]
          rw [e1] at CS
          have e2 : 0 ≤ m - (xss.length : Int) - tk - lx := by omega
          clear e1 hneg
          go_wp2_with fail
          refine CS.out.mono ?_; rintro e w1 ⟨rfl, rfl⟩
          go_wp2
          go_round
          case rel => exact ⟨k + 1, by omega, by go_num, by rw [HT.out]; go_num, by rw [HT.out]; omega⟩
          case measure => simp [intOf]; omega
      · have e : k = xss.length := by omega
        have he : r = m - xss.length - (tot xss k : Nat) := by
          rw [HR.out]; unfold szT total
          subst e
          rw [if_neg (by omega)]; omega
        have HE := Lib.hid he
        clear he hc e
        generalize tot xss k = tk at *
        go_wp2
        go_ret
        exact ⟨ret_int HE.out.symm, rfl⟩
theorem szInt64SS_b (v : Value) (xss : List (List Int)) (m : Int) (w : World) (h : Lists w v xss) (hm : 0 ≤ m ∧ m ≤ 1048576) :
    Calls Try.prog 56 #[v, .int .i64 m] w fun e w' => e = .returned (.int .i64 (szT (xss.length + total xss) m)) ∧ Below w.heap.size w w' :=
  (szInt64SS_any v xss m w h hm).mono fun _ _ ⟨he, hw⟩ => ⟨he, by rw [← hw]; exact Below.refl _ _⟩
theorem szT_in {n : Nat} {m : Int} (h : ¬ szT n m < 0) (hm : 0 ≤ m ∧ m ≤ 1048576) : n ≤ 1048576 ∧ 0 ≤ szT n m ∧ szT n m ≤ 1048576 ∧ szT n m = m - n := by
  unfold szT at *; split <;> simp_all <;> omega

/-- A contract that only draws, met inside a quiet region. -/
theorem quietD {P : Program} {f : FuncId} {args : Array Value} {w : World} {n : Nat} {v : Value}
    (h : Calls P f args (w.drewN n) fun e w' => e = .returned v ∧ ∃ m, w' = (w.drewN n).drewN m) : Calls P f args (w.drewN n) fun e w'' => e = .returned v ∧ ∃ m, w'' = w.drewN m :=
  h.mono fun _ _ ⟨he, m, hm⟩ => ⟨he, n + m, by rw [hm]; simp⟩

theorem eqInt64SS_any (v1 v2 : Value) (xss yss : List (List Int)) (w : World) (h1 : Lists w v1 xss) (h2 : Lists w v2 yss) :
    Calls Try.prog 59 #[v1, v2] w fun e w' => e = .returned (.bool (decide (xss = yss))) ∧ ∃ n, w' = w.drewN n := by
  obtain ⟨hl1, a1, cap1, rfl, hc1⟩ := h1
  obtain ⟨hl2, a2, cap2, rfl, hc2⟩ := h2
  obtain ⟨r, hr⟩ : ∃ r, r = decide (xss = yss) := ⟨_, rfl⟩
  rw [← hr]
  have HR := Lib.hid hr; clear hr
  by_cases hlen : xss.length = yss.length
  · have e1 : ((xss.length : Int) != (yss.length : Int)) = false := by simp; omega
    have e2 : (xss.length != yss.length) = false := by simp; omega
    have HL := Lib.hid hlen; clear hlen
    go_enter Try.func59, Try.ntmps59
    go_wp2
    go_loopw [5] (fun i wr => ∃ k : Nat, k ≤ xss.length ∧ i = .int .i64 k ∧ Hid (∀ j, j < k → xss.getD j [] = yss.getD j []) ∧ ∃ n, wr = w.drewN n) (fun i _ => xss.length - (intOf i).toNat)
    case atStart => exact ⟨0, Nat.zero_le _, rfl, fun j hj => by omega, 0, rfl⟩
    case round =>
      obtain ⟨k, hk, rfl, hs, n, hw⟩ := hrel
      have hbw : Below w.heap.size w wr := by rw [hw]; exact below_drewN (Below.refl _ _) _
      have HW := Lib.hid hw
      clear hw
      by_cases hlt : k < xss.length
      · have hlt2 : k < yss.length := by have := HL.out; omega
        obtain ⟨b1, o1, rfl, hcell1⟩ := hc1 (by omega)
        obtain ⟨b2, o2, rfl, hcell2⟩ := hc2 (by omega)
        obtain ⟨u1, d1', f1⟩ := hcell1 k hlt
        obtain ⟨u2, d2', f2⟩ := hcell2 k hlt2
        have d1 := (hbw.cell (p := ⟨b1, o1 + k, none⟩) (World.block_lt_of_cell? w _ d1')).trans d1'
        have d2 := (hbw.cell (p := ⟨b2, o2 + k, none⟩) (World.block_lt_of_cell? w _ d2')).trans d2'
        have CQ : Hid (∀ q, Calls Try.prog 23 #[u1, u2] (wr.drewN q) fun e w' => e = .returned (.bool (decide (xss.getD k [] = yss.getD k []))) ∧ ∃ m, w' = (wr.drewN q).drewN m) :=
          fun q => eqInt64S_any u1 u2 _ _ _ (f1.below (below_drewN hbw _)) (f2.below (below_drewN hbw _))
        obtain ⟨p1, c1, rfl⟩ : ∃ a c, u1 = .slice a (xss.getD k []).length c := by obtain ⟨_, a, c, h, _⟩ := f1; exact ⟨a, c, h⟩
        obtain ⟨p2, c2, rfl⟩ : ∃ a c, u2 = .slice a (yss.getD k []).length c := by obtain ⟨_, a, c, h, _⟩ := f2; exact ⟨a, c, h⟩
        generalize (xss.getD k []).length = lx at *
        generalize (yss.getD k []).length = ly at *
        clear hcell1 hcell2 hc1 hc2 f1 f2 d1' d2' hbw
        have j1 : (k : Int) < (xss.length : Int) := by omega
        have j2 : (k : Int) < (yss.length : Int) := by omega
        by_cases hxy : xss.getD k [] = yss.getD k []
        · have HXY := Lib.hid hxy
          have e5 : decide (xss.getD k [] = yss.getD k []) = true := decide_eq_true hxy
          rw [e5] at CQ
          clear e5 hxy
          go_wp2
          go_quiet ((go_at_call 23; exact quietD (CQ.out _)))
          go_wp2
          go_roundw
          case rel =>
            refine ⟨k + 1, by omega, by go_num, fun j hj => ?_, n + nq, by rw [HW.out]; simp⟩
            by_cases e : j = k
            · subst e; exact HXY.out
            · exact hs.out j (by omega)
          case measure => simp [intOf]; omega
        · have HXY := Lib.hid hxy
          have e5 : decide (xss.getD k [] = yss.getD k []) = false := decide_eq_false hxy
          rw [e5] at CQ
          clear e5 hxy
          go_wp2
          go_quiet ((go_at_call 23; exact quietD (CQ.out _)))
          go_wp2
          go_ret
          refine ⟨ret_bool ?_, n + nq, by rw [HW.out]; simp⟩
          rw [HR.out]
          exact (decide_eq_false (fun he => HXY.out (by rw [he]))).symm
      · have e : k = xss.length := by omega
        subst e
        have HE := Lib.hid (lists_ext HL.out hs.out)
        clear hc1 hc2 hbw
        go_wp2
        go_ret
        refine ⟨ret_bool ?_, n, HW.out⟩
        rw [HR.out]
        exact (decide_eq_true HE.out).symm
  · have e1 : ((xss.length : Int) != (yss.length : Int)) = true := by simp; omega
    have e2 : (xss.length != yss.length) = true := by simp; omega
    have hne : Hid (xss ≠ yss) := fun h => hlen (by rw [h])
    clear hlen hc1 hc2
    go_enter Try.func59, Try.ntmps59
    go_wp2
    go_ret
    exact ⟨ret_bool (by rw [HR.out]; exact (decide_eq_false hne.out).symm), 0, rfl⟩
theorem eqInt64SS_same (v1 v2 : Value) (xss : List (List Int)) (w : World) (h1 : Lists w v1 xss) (h2 : Lists w v2 xss) :
    Calls Try.prog 59 #[v1, v2] w fun e w' => e = .returned (.bool true) ∧ Below w.heap.size w w' :=
  (eqInt64SS_any v1 v2 xss xss w h1 h2).mono fun _ _ ⟨he, k, hk⟩ => ⟨by rw [he]; simp, by rw [hk]; exact below_drewN (Below.refl _ _) _⟩

theorem markInt64SS_obj (v : Value) (xss : List (List Int)) (lo hi : Nat) (m : Int) (w : World) (h : Obj lo hi (ListsR lo hi v xss) w) (hm : 0 ≤ m ∧ m + total xss ≤ 1099511627776) :
    Calls Try.prog 60 #[v, .int .i64 m] w fun e w' => e = .returned (.int .i64 (m + total xss)) ∧ Obj lo hi (ListsR lo hi v (seqL m xss)) w' ∧ Chg lo hi w w' := by
  have hhi := h.le
  obtain ⟨us, hu, hv, hus⟩ := h.now
  obtain ⟨a, cap, rfl, ha, hob⟩ := hu.shape1
  have hlx := hu.len
  have hul := hu.uslen
  have HV := Lib.hid hv
  have HUS := Lib.hid hus
  clear hv hus h
  go_enter Try.func60, Try.ntmps60
  go_wp2
  go_loopw [1, 5] (fun c i wr => ∃ k : Nat, k ≤ xss.length ∧ i = .int .i64 k ∧ c = .int .i64 (m + (tot xss k : Nat)) ∧ ∃ yss : List (List Int), Hid (yss.length = xss.length ∧ (∀ j, j < k → yss.getD j [] = seqI (m + (tot xss j : Nat)) (xss.getD j []).length) ∧ (∀ j, k ≤ j → yss.getD j [] = xss.getD j []))
      ∧ ListsU yss.length lo (.slice a xss.length cap) us yss wr ∧ Chg lo hi w wr) (fun _ i _ => xss.length - (intOf i).toNat)
  case atStart => exact ⟨0, Nat.zero_le _, rfl, by simp [tot_zero], xss, ⟨rfl, fun j hj => by omega, fun j _ => rfl⟩, hu, Chg.refl _ _ _⟩
  case round =>
    obtain ⟨k, hk, rfl, rfl, yss, hys, hown, hch⟩ := hrel
    by_cases hlt : k < xss.length
    · obtain ⟨g, rfl⟩ := ha (by omega)
      have hyl := hys.out.1
      obtain ⟨u, hk1, hk2⟩ := hown.each k (by omega)
      have hrow := hown.row
      have d3 := World.ownsRow.cellAt (by rw [hyl] at hrow; exact hrow) k (by omega)
      rw [hk1] at d3
      rw [hys.out.2.2 k (Nat.le_refl _)] at hk2
      have ht := tot_succ hlt
      have hle := tot_le xss (k := k + 1) (j := xss.length) (by omega) (Nat.le_refl _)
      have hT : total xss = tot xss xss.length := rfl
      have CM := Lib.hid (markInt64S_any u _ lo (m + (tot xss k : Nat)) wr hk2 (by omega) (by omega))
      obtain ⟨lx, hlx⟩ : ∃ lx, (xss.getD k []).length = lx := ⟨_, rfl⟩
      rw [hlx] at ht CM
      have HLX := Lib.hid hlx
      clear hlx
      have HB : Hid (∀ x, u.ownBlock = some x → lo ≤ x ∧ x < hi) := fun x hx => ⟨(hk2.blk x hx).1, HUS.out k u x hk1 hx⟩
      have HT := Lib.hid ht
      have HO := Lib.hid hown
      have HK := Lib.hid hk1
      have j1 : (k : Int) < (xss.length : Int) := by omega
      have j2 : 0 ≤ m + (tot xss k : Nat) ∧ m + (tot xss k : Nat) ≤ 1099511627776 := by omega
      have HJ : Hid (∀ j, j < k → yss.getD j [] = seqI (m + (tot xss j : Nat)) (xss.getD j []).length) := hys.out.2.1
      have HJ2 : Hid (∀ j, k ≤ j → yss.getD j [] = xss.getD j []) := hys.out.2.2
      have HYL := Lib.hid hyl
      clear hown hrow hk1 hk2 ht hle hT hob hys hyl
      go_wp2_with fail
      refine CM.out.mono ?_; rintro e w2 ⟨rfl, o2, g2⟩
      have hn := HO.out.marked (by rw [HYL.out]; exact hlt) HK.out o2 g2
      have hch2 := hch.trans (Chg.of_grown g2 HB.out)
      have HN := Lib.hid hn
      clear hn o2 g2 hch
      go_wp2
      go_roundw
      case rel =>
        refine ⟨k + 1, by omega, by go_num, by rw [HT.out]; go_num, _, ⟨?_, fun j hj => ?_, fun j hj => ?_⟩, HN.out, hch2⟩
        · rw [List.length_set]; exact HYL.out
        · by_cases e : j = k
          · subst e
            have hjl : j < yss.length := by rw [HYL.out]; exact hlt
            rw [HLX.out]
            simp [List.getD, hjl]
          · rw [← HJ.out j (by omega)]
            simp [List.getD, List.getElem?_set_ne (Ne.symm e)]
        · rw [← HJ2.out j (by omega)]
          have e : k ≠ j := by omega
          simp [List.getD, List.getElem?_set_ne e]
      case measure => simp [intOf]; omega
    · have e : k = xss.length := by omega
      subst e
      have hz : yss = seqL m xss := by
        refine lists_ext (by rw [hys.out.1, seqL_length]) fun j hj => ?_
        rw [hys.out.1] at hj
        rw [hys.out.2.1 j hj, seqL_getD m hj]
      subst hz
      clear ha hob
      go_wp2
      go_ret
      refine ⟨ret_int rfl, ListsR.obj ⟨us, hown, HV.out, HUS.out⟩ (Nat.le_trans hhi hch.size), hch⟩



end Go.Proofs.Ytfpbnhghceoleaa
