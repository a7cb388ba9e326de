/-
  What append leaves behind one element of []int64.
-/
import Derived.Test.YtoclpcdmpeimkaaSeq2
namespace Go.Proofs.Ytoclpcdmpeimkaa
open Go.RowKit

theorem ret_li {k : IntKind} {v : Value} {a b : Int} (h : a = b) : Ending.returned (.tuple #[v, .int k a]) = .returned (.tuple #[v, .int k b]) := by rw [h]
/-- What append leaves behind one element: the list with it at its end, in the call's own memory. -/
theorem append_one {ops : Array Oper} {rest : List Oper} {o : Oper} {a : Act} {Q : Exit → Act → World → Prop} {w0 wr : World} (hgd : o.guard = none) (s x : Operand)
    (ho : o.op = .call { callee := .builtin .append, args := #[s, x], argTypes := #[43, 43] }) (v : Value) (xs : List Int) (y : Int)
    (hs : a.eval s = v) (hown : Own wr w0.heap.size v xs) (hbel : Below w0.heap.size w0 wr) (hx : a.eval x = .slice (some ⟨wr.heap.size, 0, none⟩) 1 1) (hlen : xs.length ≤ 17592186000000)
    (h : ∀ v' w', Own w' w0.heap.size v' (xs ++ [y]) → Below w0.heap.size w0 w' → wpList Try.prog ops Q rest (a.put o.dst v') w') :
    wpList Try.prog ops Q (o :: rest) a (wr.alloc (.cells #[.int .i64 y] 2)) := by
  obtain ⟨i0, hi, hz0, hz1, hz2⟩ := info_parts infoI
  refine wpList_append_own _ hgd s x 43 ho w0.heap.size 2 i0 (.int .i64 0) 1 8 Try.underlying43 hi hz0 hz1 hz2 rfl (by decide) v xs.length (xs.map (Value.int .i64)) hs (World.ownsRow.alloc hown _)
    ⟨wr.heap.size, 0, none⟩ 1 1 [.int .i64 y] hx rfl ?_ ?_ (by unfold maxLen; omega) (by omega) (by have := hbel.size; simp; omega) ?_
  · intro j u hj
    match j, hj with
    | 0, hj => simp at hj; subst hj; simp [Addr.add, go_sem]
  · intro u hu; simp at hu; subst hu; rfl
  · intro v' w' h1 h2 _
    refine h v' w' (Own.of_rows h1 (by simp) (by simp)) ?_
    exact (hbel.alloc hbel.size _).grown h2 (by have := hbel.size; simp; omega) (fun k hk => (hown.blk k hk).1)

theorem append_oneB {ops : Array Oper} {rest : List Oper} {o : Oper} {a : Act} {Q : Exit → Act → World → Prop} {w0 wr : World} {base : Nat} (hb : w0.heap.size = base) (hgd : o.guard = none) (s x : Operand)
    (ho : o.op = .call { callee := .builtin .append, args := #[s, x], argTypes := #[43, 43] }) (v : Value) (xs : List Int) (y : Int)
    (hs : a.eval s = v) (hown : Own wr base v xs) (hbel : Below base w0 wr) (hx : a.eval x = .slice (some ⟨wr.heap.size, 0, none⟩) 1 1) (hlen : xs.length ≤ 17592186000000)
    (h : ∀ v' w', Own w' base v' (xs ++ [y]) → Below base w0 w' → wpList Try.prog ops Q rest (a.put o.dst v') w') :
    wpList Try.prog ops Q (o :: rest) a (wr.alloc (.cells #[.int .i64 y] 2)) := by
  subst hb; exact append_one hgd s x ho v xs y hs hown hbel hx hlen h

theorem Own.made {w : World} : Own (w.alloc (.cells #[] 2)) w.heap.size (.slice (some ⟨w.heap.size, 0, none⟩) 0 0) [] :=
  World.ownsRow_made (base := w.heap.size) (e := 2) (size := 1) w #[] 0 (Nat.le_refl _) (by unfold maxLen; omega) rfl

end Go.Proofs.Ytoclpcdmpeimkaa
