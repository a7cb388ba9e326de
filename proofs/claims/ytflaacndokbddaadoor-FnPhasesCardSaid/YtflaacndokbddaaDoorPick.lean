/-
 What append leaves behind one element of []int64.
-/
import Derived.Test.YtflaacndokbddaaDoorSeq2
namespace Go.Proofs.YtflaacndokbddaaDoor
open Go.RowKit

theorem ret_li {k : IntKind} {v : Value} {a b : Int} (h : a = b) : Ending.returned (.tuple #[v, .int k a]) = .returned (.tuple #[v, .int k b]) := by rw [h]
theorem append_one {ops : Array Oper} {rest : List Oper} {o : Oper} {a : Act} {Q : Exit → Act → World → Prop} {w0 wr : World} (hgd : o.guard = none) (s x : Operand)
 (ho : o.op = .call { callee := .builtin .append, args := #[s, x], argTypes := #[29, 29] }) (v : Value) (xs : List Int) (y : Int)
 (hs : a.eval s = v) (hown : Own wr w0.heap.size v xs) (hbel : Below w0.heap.size w0 wr) (hx : a.eval x = .slice (some ⟨wr.heap.size, 0, none⟩) 1 1) (hlen : xs.length ≤ 17592186000000)
 (h : ∀ v' w', Own w' w0.heap.size v' (xs ++ [y]) → Below w0.heap.size w0 w' → wpList Tryd.prog ops Q rest (a.put o.dst v') w') :
 wpList Tryd.prog ops Q (o :: rest) a (wr.alloc (.cells #[.int .i64 y] 2)) := by
 obtain ⟨i0, hi, hz0, hz1, hz2⟩ := info_parts infoI
 refine wpList_append_own _ hgd s x 29 ho w0.heap.size 2 i0 (.int .i64 0) 1 8 Tryd.underlying29 hi hz0 hz1 hz2 rfl (by decide) v xs.length (xs.map (Value.int .i64)) hs (World.ownsRow.alloc hown _)
  ⟨wr.heap.size, 0, none⟩ 1 1 [.int .i64 y] hx rfl ?_ ?_ (by unfold maxLen; omega) (by omega) (by have := hbel.size; simp; omega) ?_
 · intro j u hj
   match j, hj with
   | 0, hj => simp at hj; subst hj; simp [Addr.add, go_sem]
 · intro u hu; simp at hu; subst hu; rfl
 · intro v' w' h1 h2 _
   refine h v' w' (Own.of_rows h1 (by simp) (by simp)) ?_
   exact (hbel.alloc hbel.size _).grown h2 (by have := hbel.size; simp; omega) (fun k hk => (hown.blk k hk).1)

theorem append_oneG {ops : Array Oper} {rest : List Oper} {o : Oper} {a : Act} {Q : Exit → Act → World → Prop} {wr : World} {base : Nat} (hgd : o.guard = none) (s x : Operand)
 (ho : o.op = .call { callee := .builtin .append, args := #[s, x], argTypes := #[29, 29] }) (v : Value) (xs : List Int) (y : Int)
 (hs : a.eval s = v) (hown : Own wr base v xs) (hb : base ≤ wr.heap.size) (hx : a.eval x = .slice (some ⟨wr.heap.size, 0, none⟩) 1 1) (hlen : xs.length ≤ 17592186000000)
 (h : ∀ v' w', Own w' base v' (xs ++ [y]) → wr.grownBy w' v.ownBlock → wpList Tryd.prog ops Q rest (a.put o.dst v') w') :
 wpList Tryd.prog ops Q (o :: rest) a (wr.alloc (.cells #[.int .i64 y] 2)) := by
 obtain ⟨i0, hi, hz0, hz1, hz2⟩ := info_parts infoI
 refine wpList_append_own _ hgd s x 29 ho base 2 i0 (.int .i64 0) 1 8 Tryd.underlying29 hi hz0 hz1 hz2 rfl (by decide) v xs.length (xs.map (Value.int .i64)) hs (World.ownsRow.alloc hown _)
  ⟨wr.heap.size, 0, none⟩ 1 1 [.int .i64 y] hx rfl ?_ ?_ (by unfold maxLen; omega) (by omega) (by simp; omega) ?_
 · intro j u hj
   match j, hj with
   | 0, hj => simp at hj; subst hj; simp [Addr.add, go_sem]
 · intro u hu; simp at hu; subst hu; rfl
 · intro v' w' h1 h2 _
   refine h v' w' (Own.of_rows h1 (by simp) (by simp)) ?_
   have g0 : wr.grownBy (wr.alloc (.cells #[.int .i64 y] 2)) v.ownBlock := ⟨rfl, rfl, rfl, by simp, fun k hk _ => Below.heap_alloc _ _ _ hk⟩
   exact grown_trans g0 h2

theorem append_oneB {ops : Array Oper} {rest : List Oper} {o : Oper} {a : Act} {Q : Exit → Act → World → Prop} {w0 wr : World} {base : Nat} (hb : w0.heap.size = base) (hgd : o.guard = none) (s x : Operand)
 (ho : o.op = .call { callee := .builtin .append, args := #[s, x], argTypes := #[29, 29] }) (v : Value) (xs : List Int) (y : Int)
 (hs : a.eval s = v) (hown : Own wr base v xs) (hbel : Below base w0 wr) (hx : a.eval x = .slice (some ⟨wr.heap.size, 0, none⟩) 1 1) (hlen : xs.length ≤ 17592186000000)
 (h : ∀ v' w', Own w' base v' (xs ++ [y]) → Below base w0 w' → wpList Tryd.prog ops Q rest (a.put o.dst v') w') :
 wpList Tryd.prog ops Q (o :: rest) a (wr.alloc (.cells #[.int .i64 y] 2)) := by
 subst hb; exact append_one hgd s x ho v xs y hs hown hbel hx hlen h

theorem append_nothing {ops : Array Oper} {rest : List Oper} {o : Oper} {a : Act} {Q : Exit → Act → World → Prop} {wr : World} {base : Nat} (hgd : o.guard = none) (s x : Operand)
 (ho : o.op = .call { callee := .builtin .append, args := #[s, x], argTypes := #[29, 29] }) (v : Value) (xs : List Int)
 (hs : a.eval s = v) (hown : Own wr base v xs) (c : Nat) (hx : a.eval x = .slice none 0 c) (h : wpList Tryd.prog ops Q rest (a.put o.dst v) wr) : wpList Tryd.prog ops Q (o :: rest) a wr := by
 obtain ⟨i0, hi, hz0, hz1, hz2⟩ := info_parts infoI
 have hrun : (Builtin.append_ #[29, 29] o.type #[v, .slice none 0 c]).run Tryd.prog wr = .ok v wr := by
  rcases hown.2 with ⟨rfl, h0⟩ | ⟨g, cap, cur, rfl, _, _, hnc, _⟩
  · simp [Builtin.append_, run_underlying Tryd.underlying29, sizeOf, typeInfo, hi, Builtin.lenOf, Builtin.firstCells]
  · simp [Builtin.append_, run_underlying Tryd.underlying29, sizeOf, typeInfo, hi, Builtin.lenOf, Builtin.firstCells, hnc, storeCells]
 refine wpList_plain hgd fun K hK => ?_
 unfold Oper.wp
 simp [execOp, ho, resolve, invoke, builtin, hs, hx, hrun, Result.andThen]
 exact hK _ _ h

theorem append_all {ops : Array Oper} {rest : List Oper} {o : Oper} {a : Act} {Q : Exit → Act → World → Prop} {wr : World} {base : Nat} (hgd : o.guard = none) (s x : Operand)
 (ho : o.op = .call { callee := .builtin .append, args := #[s, x], argTypes := #[29, 29] }) (v : Value) (xs : List Int) (V : Value) (ys : List Int)
 (hs : a.eval s = v) (hown : Own wr base v xs) (hb : base ≤ wr.heap.size) (hx : a.eval x = V) (hy : Ints wr V ys) (hlen : xs.length + ys.length ≤ 17592186000000)
 (h : ∀ v' w', Own w' base v' (xs ++ ys) → wr.grownBy w' v.ownBlock → wpList Tryd.prog ops Q rest (a.put o.dst v') w') : wpList Tryd.prog ops Q (o :: rest) a wr := by
 obtain ⟨i0, hi, hz0, hz1, hz2⟩ := info_parts infoI
 obtain ⟨hl, ad, cap, rfl, hc⟩ := hy
 cases ad with
 | none =>
   have h0 : ys = [] := by
    by_cases h0 : 0 < ys.length
    · obtain ⟨b, off, e, _⟩ := hc h0; cases e
    · exact List.eq_nil_of_length_eq_zero (by omega)
   subst h0
   refine append_nothing hgd s x ho v xs hs hown cap (by simpa using hx) (h v wr (by simpa using hown) (grown_refl _ _))
 | some ad =>
   have hn : ∀ j u, (ys.map (Value.int .i64))[j]? = some u → wr.cell? (ad.add j) = some u := by
    intro j u hj
    by_cases h0 : 0 < ys.length
    · obtain ⟨b, off, e, hcell⟩ := hc h0
      obtain rfl : ad = ⟨b, off, none⟩ := by simpa using e
      have hjl : j < ys.length := by
       rcases Nat.lt_or_ge j ys.length with h | h
       · exact h
       · rw [List.getElem?_eq_none (by simpa using h)] at hj; cases hj
      have := hcell j hjl
      have e2 : (⟨b, off, none⟩ : Addr).add j = ⟨b, off + j, none⟩ := by unfold Addr.add; split <;> simp_all
      rw [e2, this]
      simpa [List.getD, hjl] using hj
    · have : ys = [] := List.eq_nil_of_length_eq_zero (by omega)
      subst this; simp at hj
   refine wpList_append_own _ hgd s x 29 ho base 2 i0 (.int .i64 0) 1 8 Tryd.underlying29 hi hz0 hz1 hz2 rfl (by decide) v xs.length (xs.map (Value.int .i64)) hs hown ad ys.length cap (ys.map (Value.int .i64)) hx (by simp) hn ?_ (by unfold maxLen; omega) (by omega) hb ?_
   · intro u hu; simp at hu; obtain ⟨z, _, rfl⟩ := hu; rfl
   · intro v' w' h1 h2 _
     exact h v' w' (Own.of_rows h1 (by simp) (by simp)) h2

theorem Own.made {w : World} : Own (w.alloc (.cells #[] 2)) w.heap.size (.slice (some ⟨w.heap.size, 0, none⟩) 0 0) [] :=
 World.ownsRow_made (base := w.heap.size) (e := 2) (size := 1) w #[] 0 (Nat.le_refl _) (by unfold maxLen; omega) rfl

end Go.Proofs.YtflaacndokbddaaDoor
