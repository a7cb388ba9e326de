/-
  The logic of trees, sixth part: variables in memory, struct values, stores into variables.
-/
import Derived.Test.YthglggjgjlmhlaaGe
import Derived.Laws.Tables
import Derived.Great.BuildSlice
namespace Go.Proofs.Ythglggjgjlmhlaa
open Go.RowKit
set_option linter.unusedSimpArgs false
set_option linter.unusedVariables false

/-- A new block b of the name n. -/
def Rz.nw (R : Rz) (n b : Nat) (v : Value) : Rz :=
  { root := fun x => if x = b then n else if R.root x = n then 1 else R.root x
    hd := fun m => if m = n then v else R.hd m
    bk := fun m => if m = n then b else R.bk m }
theorem fr_nw (R : Rz) (w : World) (n : Nat) (hn : 100 ≤ n) (v : Value) (o : Obj) : FR [n] [n] R w (R.nw n w.heap.size v) (w.alloc o) := by
  refine ⟨rfl, rfl, rfl, by simp, fun b hb hr => ⟨heap_alloc_old w o hb, ?_⟩, fun m hm => ?_, fun m hm => ?_⟩
  · have h1 : b ≠ w.heap.size := by omega
    simp only [List.mem_singleton] at hr
    simp [Rz.nw, h1, hr]
  · simp only [List.mem_singleton] at hm
    simp [Rz.nw, hm]
  · have : m ≠ n := by omega
    simp [Rz.nw, this]
/-- The name of what an operation makes. -/
def nm (d : Option Tmp) : Nat := 100 + 16 * d.getD 0
theorem nm_lt (d : Option Tmp) : 5 < nm d := by unfold nm; omega
theorem nm_ge (d : Option Tmp) : 100 ≤ nm d := by unfold nm; omega

def cellsA : AV → Option (List CV)
  | .c x => some [x]
  | .agg l => some l
  | .tup _ => none
/-- It is the value of one cell. -/
def cvOne (σ : St) : CV → Bool
  | .sc v => v.oneCell'
  | .ow n => match σ.look n with
    | some (.row _ _ _ _) => true
    | some (.tree _ _ _ _) => true
    | _ => false
  | .bot => false
  | _ => true
section
variable {P : Program} {R0 R : Rz} {w0 w : World} {σ : St} {a : Act} {o : Oper} {K : Act → World → Prop} {Q : Exit → Act → World → Prop}
theorem cells_of_one {u : Value} (h : u.oneCell' = true) : u.cells = #[u] := by cases u <;> simp_all [Value.oneCell', Value.cells]
theorem cvOne_ok {c : CV} {u : Value} (hs : Sim R0 w0 R σ a w) (hc : VRc R w c u) (h : cvOne σ c = true) : u.oneCell' = true := by
  cases c with
  | sc v => cases hc; exact h
  | rd S e t xs => obtain ⟨ad, cap, h1, _⟩ := hc; simp only [List.cons.injEq, and_true] at h1; subst h1; rfl
  | pt S t x k => obtain ⟨b, q, us, rfl, _⟩ := hc; rfl
  | ow n =>
    simp only [cvOne] at h
    split at h
    · rename_i e t xs S he
      have hc : u = R.hd n := hc
      rcases hs.look he with ⟨h1, _⟩ | ⟨cap, cur, h1, _⟩ <;> rw [hc, h1] <;> rfl
    · rename_i e t xs S he
      have hc : u = R.hd n := hc
      rcases hs.look he with ⟨h1, _⟩ | ⟨cap, cur, h1, _⟩ <;> rw [hc, h1] <;> rfl
    · cases h
  | po n k => cases hc; rfl
  | pe n i wd k => cases hc; rfl
  | sub n i wd o e t xs => obtain ⟨_, _, h1⟩ := hc; rcases h1 with ⟨rfl, _⟩ | ⟨b, cap, cur, rfl, _⟩ <;> rfl
  | pi n i wd o j t x k => obtain ⟨b, l, cap, us, _, _, _, rfl, _⟩ := hc; rfl
  | fn f l => cases hc; rfl
  | bot => cases h
theorem cellsA_ok {x : AV} {u : Value} {l : List CV} (hs : Sim R0 w0 R σ a w) (hx : VR R w x u) (h : cellsA x = some l) (hl : l.all (cvOne σ) = true) : VRs R w l u.cells.toList ∧ (∀ v ∈ u.cells.toList, v.oneCell' = true) := by
  have all1 : ∀ {l : List CV} {us : List Value}, VRs R w l us → l.all (cvOne σ) = true → ∀ v ∈ us, v.oneCell' = true := by
    intro l
    induction l with
    | nil => intro us h _ v hv; simp only [VRs] at h; subst h; cases hv
    | cons c l ih =>
      intro us h hl v hv
      obtain ⟨u, us', rfl, h1, h2⟩ := h
      simp only [List.all_cons, Bool.and_eq_true] at hl
      rcases List.mem_cons.1 hv with rfl | hv
      · exact cvOne_ok hs h1 hl.1
      · exact ih h2 hl.2 v hv
  cases x with
  | c p =>
    cases h
    simp only [VR] at hx
    simp only [List.all_cons, List.all_nil, Bool.and_true] at hl
    have h1 := cvOne_ok hs hx hl
    rw [cells_of_one h1]
    exact ⟨⟨u, [], rfl, hx, rfl⟩, by simpa using h1⟩
  | agg q =>
    cases h
    simp only [VR] at hx
    obtain ⟨us, rfl, h1⟩ := hx
    exact ⟨h1, all1 h1 hl⟩
  | tup q => cases h

def newBox (n : Nat) (l : List CV) : Res := ⟨True, .c (.po n 0), [n], [n], [(n, .box (l.map (CV.kill [n] [n])))]⟩
theorem newBox_ok {n : Nat} {l : List CV} {us : Array Value} {T : TypeId} (hs : Sim R0 w0 R σ a w) (hn : 100 ≤ n) (h : VRs R w l us.toList)
    (hrun : (execOp a.eval o).run P w = .ok (.value (.pointer (some ⟨w.heap.size, 0, none⟩))) (w.alloc (.cells us T)))
    (hK : ∀ R' v w', Done R w (newBox n l).N (newBox n l).M (newBox n l).r (newBox n l).news R' v w' → K (a.put o.dst v) w') : o.wp P a w K Q := by
  have hf := fr_nw R w n hn undef (.cells us T)
  have h0 : (0 : Nat) ∉ [n] := by simp; omega
  refine wp_of_run hs hrun hf (by simp [newBox]; omega) ?_ ?_ hK
  · simp [newBox, VR, VRc, Rz.nw]
  · intro p hp
    simp only [newBox, List.mem_singleton] at hp
    subst hp
    refine ⟨us, T, ?_, ?_, h.kill hf h0⟩
    · simp only [Rz.nw, if_true]; exact heap_alloc_new w _
    · simp [Rz.nw]
def aBox (σ : St) (d : Option Tmp) (x : Operand) : Option Res :=
  match cellsA (σ.ev x) with
  | some l => if l.all (cvOne σ) then some (newBox (nm d) l) else none
  | none => none
theorem aBox_ok {t : TypeId} {x : Operand} {r : Res} (ho : o.op = .box t x) (h : aBox σ o.dst x = some r) (hs : Sim R0 w0 R σ a w)
    (hK : ∀ R' v w', Done R w r.N r.M r.r r.news R' v w' → K (a.put o.dst v) w') : o.wp P a w K Q := by
  have h1 := hs.ev x
  unfold aBox at h
  split at h
  case h_2 => cases h
  rename_i l e1
  split at h
  case isFalse => cases h
  rename_i hl
  cases h
  refine newBox_ok (us := (a.eval x).cells) (T := t) hs (nm_ge _) (cellsA_ok hs h1 e1 hl).1 ?_ hK
  unfold execOp
  simp [ho, Instr.box, newVar, newRow]
def zeroOf (P : Program) (t : TypeId) : Option (List Value) := ((P.info? t).bind (·.zero)).map fun z => z.cells.toList
theorem zeroOf_info {t : TypeId} {l : List Value} (h : zeroOf P t = some l) : ∃ i z, P.info? t = some i ∧ i.zero = some z ∧ z.cells.toList = l := by
  cases hq : P.info? t with
  | none => simp [zeroOf, hq] at h
  | some i =>
    cases hz : i.zero with
    | none => simp [zeroOf, hq, hz] at h
    | some z => exact ⟨i, z, rfl, hz, by simpa [zeroOf, hq, hz] using h⟩
def aAlloc (P : Program) (d : Option Tmp) (t : TypeId) : Option Res :=
  match zeroOf P t with
  | some l => some (newBox (nm d) (l.map .sc))
  | none => none
theorem VRs.scs (l : List Value) : VRs R w (l.map .sc) l := by
  induction l with
  | nil => rfl
  | cons v l ih => exact ⟨v, l, rfl, rfl, ih⟩
theorem aAlloc_ok {t : TypeId} {r : Res} (ho : o.op = .alloc t) (h : aAlloc P o.dst t = some r) (hs : Sim R0 w0 R σ a w)
    (hK : ∀ R' v w', Done R w r.N r.M r.r r.news R' v w' → K (a.put o.dst v) w') : o.wp P a w K Q := by
  unfold aAlloc at h
  split at h
  case h_2 => cases h
  rename_i l e1
  cases h
  obtain ⟨i, z, e2, e3, e4⟩ := zeroOf_info e1
  refine newBox_ok (us := z.cells) (T := t) hs (nm_ge _) (by rw [e4]; exact VRs.scs l) ?_ hK
  unfold execOp
  simp [ho, Instr.alloc, zeroValue, typeInfo, e2, e3, newVar, newRow]

/-- A function value with variables that it has captured. -/
def capsOf (σ : St) : List Operand → Option (List Nat)
  | [] => some []
  | x :: l => match σ.ev x, capsOf σ l with
    | .c (.po n 0), some ns => some (n :: ns)
    | _, _ => none
def aFunc (σ : St) (f : FuncId) (caps : List Operand) : Option Res :=
  match capsOf σ caps with
  | some ns => pureRes (.c (.fn f ns))
  | none => none
theorem capsOf_ok (hs : Sim R0 w0 R σ a w) : ∀ {l : List Operand} {ns : List Nat}, capsOf σ l = some ns → l.map a.eval = ns.map fun n => Value.pointer (some ⟨R.bk n, 0, none⟩) := by
  intro l
  induction l with
  | nil => intro ns h; simp only [capsOf, Option.some.injEq] at h; subst h; rfl
  | cons x l ih =>
    intro ns h
    have h1 := hs.ev x
    simp only [capsOf] at h
    split at h
    · rename_i n ns' e1 e2
      cases h
      rw [e1] at h1
      simp only [VR, VRc] at h1
      simp [h1, ih e2]
    · cases h
theorem aFunc_ok {f : FuncId} {caps : Array Operand} {r : Res} (ho : o.op = .makeFunc (.func f) #[] caps) (h : aFunc σ f caps.toList = some r) (hs : Sim R0 w0 R σ a w)
    (hK : ∀ R' v w', Done R w r.N r.M r.r r.news R' v w' → K (a.put o.dst v) w') : o.wp P a w K Q := by
  unfold aFunc at h
  split at h
  case h_2 => cases h
  rename_i ns e1
  cases h
  refine wp_of_pure (v := .func (.func f) #[] (caps.map a.eval)) hs ?_ ?_ hK
  · unfold execOp
    simp [ho, Instr.makeFunc]
  · simp only [VR, VRc]
    rw [← capsOf_ok hs e1]
    congr 1
    exact Array.ext' (by simp)
/-- Cells are laid over others. -/
def splice {α : Type} (l : List α) (k : Nat) (cs : List α) : List α := l.take k ++ cs ++ l.drop (k + cs.length)
theorem VRs.splice {l cs : List CV} {us vs : List Value} (h : VRs R w l us) (k : Nat) (hc : VRs R w cs vs) : VRs R w (splice l k cs) (splice us k vs) := by
  unfold Go.Proofs.Ythglggjgjlmhlaa.splice
  rw [hc.length]
  exact ((h.take k).append hc).append (h.drop _)
theorem splice_get {α : Type} (l cs : List α) (k : Nat) (hk : k + cs.length ≤ l.length) (q : Nat) :
    (splice l k cs)[q]? = if k ≤ q ∧ q < k + cs.length then cs[q - k]? else l[q]? := by
  unfold splice
  have ht : (l.take k).length = k := by simp; omega
  by_cases h1 : q < k
  · rw [if_neg (by omega), List.append_assoc, List.getElem?_append_left (by omega), List.getElem?_take_of_lt h1]
  · by_cases h2 : q < k + cs.length
    · rw [if_pos (by omega), List.append_assoc, List.getElem?_append_right (by omega), ht, List.getElem?_append_left (by omega)]
    · rw [if_neg (by omega), List.getElem?_append_right (by simp; omega), List.getElem?_drop]
      congr 1
      simp only [List.length_append, ht]; omega
theorem splice_length {α : Type} (l cs : List α) (k : Nat) (hk : k + cs.length ≤ l.length) : (splice l k cs).length = l.length := by
  unfold splice; simp; omega

/-- The parts of a struct. -/
def fillA (pl : List (Nat × Nat)) (l : List CV) : List (Nat × AV) → Option (List CV)
  | [] => some l
  | (i, v) :: rest => match pl[i]?, cellsA v with
    | some (off, size), some cs => if cs.length = size ∧ off + cs.length ≤ l.length then fillA pl (splice l off cs) rest else none
    | _, _ => none
theorem fold_splice (l : List Value) : ∀ (cs : Array Value) (off j : Nat), off + j + l.length ≤ cs.size →
    ((l.zipIdx j).foldl (fun cs (c, i) => cs.setIfInBounds (off + i) c) cs).toList = splice cs.toList (off + j) l := by
  induction l with
  | nil => intro cs off j h; simp [splice]
  | cons v l ih =>
    intro cs off j h
    simp only [List.length_cons] at h
    rw [List.zipIdx_cons, List.foldl_cons, ih _ off (j + 1) (by simp; omega)]
    apply List.ext_getElem?
    intro q
    rw [splice_get _ _ _ (by simp; omega), splice_get _ _ _ (by simp; omega)]
    simp only [List.length_cons, Array.toList_setIfInBounds]
    by_cases h1 : q = off + j
    · subst h1
      rw [if_neg (by omega), if_pos (by omega), List.getElem?_set_self (by simp; omega)]; simp
    · by_cases h2 : off + j ≤ q ∧ q < off + j + (l.length + 1)
      · rw [if_pos (by omega), if_pos h2]
        obtain ⟨d, hd⟩ : ∃ d, q - (off + j) = d + 1 := ⟨q - (off + j) - 1, by omega⟩
        rw [hd, List.getElem?_cons_succ]
        congr 1; omega
      · rw [if_neg (by omega), if_neg h2, List.getElem?_set_ne (by omega)]
theorem fillA_ok (hs : Sim R0 w0 R σ a w) (pl : List (Nat × Nat)) : ∀ (parts : List (Nat × Operand)) (l l' : List CV) (us : Array Value),
    VRs R w l us.toList → fillA pl l (parts.map fun p => (p.1, σ.ev p.2)) = some l' → (∀ p ∈ parts, ∀ cs, cellsA (σ.ev p.2) = some cs → cs.all (cvOne σ) = true) →
    ∃ us' : Array Value, Instr.fill (pl.toArray[·]?) us (parts.map fun p => (p.1, a.eval p.2)) = some us' ∧ VRs R w l' us'.toList := by
  intro parts
  induction parts with
  | nil => intro l l' us h1 h2 _; simp only [List.map_nil, fillA, Option.some.injEq] at h2; subst h2; exact ⟨us, rfl, h1⟩
  | cons p parts ih =>
    intro l l' us h1 h2 h3
    obtain ⟨i, x⟩ := p
    simp only [List.map_cons, fillA] at h2
    split at h2
    case h_2 => cases h2
    rename_i off size cs e1 e2
    split at h2
    case isFalse => cases h2
    rename_i hle
    have h4 := (cellsA_ok hs (hs.ev x) e2 (h3 _ List.mem_cons_self cs e2)).1
    have hl4 := h4.length
    have hl1 := h1.length
    simp only [Array.length_toList] at hl4 hl1
    have hf : ((a.eval x).cells.zipIdx.foldl (fun cs (c, j) => cs.setIfInBounds (off + j) c) us).toList = splice us.toList off (a.eval x).cells.toList := by
      have := fold_splice (a.eval x).cells.toList us off 0 (by simp; omega)
      rw [Nat.add_zero] at this
      rw [← this, ← Array.foldl_toList]
      simp
    obtain ⟨us', k1, k2⟩ := ih (splice l off cs) l' ((a.eval x).cells.zipIdx.foldl (fun cs (c, j) => cs.setIfInBounds (off + j) c) us) (by rw [hf]; exact h1.splice off h4) h2 (fun p hp => h3 p (List.mem_cons_of_mem _ hp))
    refine ⟨us', ?_, k2⟩
    have hcond : ¬ ((a.eval x).cells.size ≠ size ∨ off + (a.eval x).cells.size > us.size) := by
      rintro (h | h)
      · exact h (hl4.trans hle.1)
      · rw [hl4, hl1] at h; exact absurd hle.2 (by omega)
    simp only [List.map_cons, Instr.fill, List.getElem?_toArray, e1]
    rw [if_neg (by simpa using hcond)]
    simpa only [List.getElem?_toArray] using k1
def placesOf (P : Program) (t : TypeId) : Option (List (Nat × Nat)) :=
  match P.underlying t with
  | some (.struct fs) => fs.toList.mapM fun f => (P.info? f.type).map fun i => (f.offset, i.size)
  | _ => none
def partsOne (σ : St) (parts : List (Nat × Operand)) : Bool := parts.all fun p => match cellsA (σ.ev p.2) with
  | some cs => cs.all (cvOne σ)
  | none => false
def aBuild (P : Program) (σ : St) (t : TypeId) (parts : List (Nat × Operand)) : Option Res :=
  match zeroOf P t, placesOf P t with
  | some z, some pl => if partsOne σ parts then match fillA pl (z.map .sc) (parts.map fun p => (p.1, σ.ev p.2)) with
    | some l => pureRes (.agg l)
    | none => none else none
  | _, _ => none
theorem aBuild_ok {t : TypeId} {parts : Array (Nat × Operand)} {r : Res} (ho : o.op = .build t parts) (h : aBuild P σ t parts.toList = some r) (hs : Sim R0 w0 R σ a w)
    (hK : ∀ R' v w', Done R w r.N r.M r.r r.news R' v w' → K (a.put o.dst v) w') : o.wp P a w K Q := by
  unfold aBuild at h
  split at h
  case h_2 => cases h
  rename_i z pl e1 e2
  split at h
  case isFalse => cases h
  rename_i hone
  split at h
  case h_2 => cases h
  rename_i l e3
  cases h
  obtain ⟨i, zv, e4, e5, e6⟩ := zeroOf_info e1
  unfold placesOf at e2
  split at e2
  case h_2 => cases e2
  rename_i fs e7
  obtain ⟨us', k1, k2⟩ := fillA_ok hs pl parts.toList (z.map .sc) l zv.cells (by rw [e6]; exact VRs.scs z) e3 (fun p hp cs hcs => by
    have := List.all_eq_true.1 hone p hp
    rw [hcs] at this; exact this)
  refine wp_of_pure (v := .agg us') hs ?_ (by simp only [VR]; exact ⟨_, rfl, k2⟩) hK
  unfold execOp
  simp only [ho, Sem.run_bind]
  rw [run_build w t _ us' (by
    simp only [Program.built, e4, e7, e5, e2]
    rw [← k1]
    congr 1
    simp)]
  simp
end
end Go.Proofs.Ythglggjgjlmhlaa
