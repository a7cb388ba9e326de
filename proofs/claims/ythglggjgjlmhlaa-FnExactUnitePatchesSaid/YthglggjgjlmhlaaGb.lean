/-
  The logic of trees, second part: abstract values and objects, what realizes them in memory, and when that stays.
-/
import Derived.Test.YthglggjgjlmhlaaGa
namespace Go.Proofs.Ythglggjgjlmhlaa
open Go.RowKit
set_option linter.unusedSimpArgs false
set_option linter.unusedVariables false

/-- Abstract values of one cell. sc: no address in it; rd: a slice that reads as xs (blocks of the names S, or foreign ones); pt: a pointer to cell o of cells that read as x;
    ow: the slice of the row object n; po: a pointer into the box n, at cell o; pe: a pointer into the row object n, at cell k;
    sub: the slice at cell o of element i of the tree n; pi: a pointer to cell k of that slice's element j; fn: a function value with variables that it has captured. -/
inductive CV where
  | sc (v : Value)
  | rd (S : List Nat) (e : TypeId) (t : Ty) (xs : List t.den)
  | pt (S : List Nat) (t : Ty) (x : t.den) (o : Nat)
  | ow (n : Nat)
  | po (n o : Nat)
  | pe (n : Nat) (i wd o : Nat)
  | sub (n i wd o : Nat) (e : TypeId) (t : Ty) (xs : List t.den)
  | pi (n i wd o j : Nat) (t : Ty) (x : t.den) (k : Nat)
  | fn (f : FuncId) (l : List Nat)
  | bot
inductive AV where
  | c (x : CV)
  | agg (l : List CV)
  | tup (l : List AV)
/-- Objects of the call's own: variables in memory; rows (what lies in their elements' slices belongs to the names in S); trees (rows whose elements' slices are theirs alone, but for those between two indices). -/
inductive Ob where
  | box (l : List CV)
  | row (e : TypeId) (t : Ty) (xs : List t.den) (S : List Nat)
  | tree (e : TypeId) (t : Ty) (xs : List t.den) (h : Option (Nat × Nat))
def Ty.flat : Ty → Bool
  | .row _ _ => false
  | .prod a b => a.flat && b.flat
  | _ => true
def inH : Option (Nat × Nat) → Nat → Prop
  | none, _ => False
  | some p, i => p.1 ≤ i ∧ i < p.2

/-- Who owns a block (0: nobody here); the slice of a row object; the block of an object. -/
structure Rz where
  root : Nat → Nat
  hd : Nat → Value
  bk : Nat → Nat

def okS (R : Rz) (S : List Nat) (b : Nat) : Prop := R.root b = 0 ∨ R.root b ∈ S
/-- The slice u of flat elements lies in a block of its own, of the name n. -/
def RowO (R : Rz) (w : World) (n : Nat) (e : TypeId) (t : Ty) (u : Value) (ys : List t.den) : Prop :=
  (u = .slice none 0 0 ∧ ys = []) ∨ ∃ b cap cur, u = .slice (some ⟨b, 0, none⟩) ys.length cap ∧ R.root b = n ∧ w.heap[b]? = some (.cells cur e (0, 0)) ∧ ys.length ≤ cap ∧ cap ≤ maxLen ∧ cur.size = cap * t.w ∧
    ∀ i (h : i < ys.length), Rd (okS R []) w t ((cur.toList.drop (i * t.w)).take t.w) ys[i]
def VRc (R : Rz) (w : World) : CV → Value → Prop
  | .sc v, u => u = v
  | .rd S e t xs, u => Rd (okS R S) w (.row e t) [u] xs
  | .pt S t x k, u => ∃ b o us, u = .pointer (some ⟨b, o + k, none⟩) ∧ okS R S b ∧ us.length = t.w ∧ (∀ j, j < t.w → w.cell? ⟨b, o + j, none⟩ = us[j]?) ∧ Rd (okS R S) w t us x
  | .ow n, u => u = R.hd n
  | .po n o, u => u = .pointer (some ⟨R.bk n, o, none⟩)
  | .pe n i wd o, u => u = .pointer (some ⟨R.bk n, i * wd + o, none⟩)
  | .sub n i wd o e t xs, u => w.cell? ⟨R.bk n, i * wd + o, none⟩ = some u ∧ R.root (R.bk n) = n ∧ RowO R w n e t u xs
  | .pi n i wd o j t x k, u => ∃ b l cap us, w.cell? ⟨R.bk n, i * wd + o, none⟩ = some (.slice (some ⟨b, 0, none⟩) l cap) ∧ R.root (R.bk n) = n ∧ R.root b = n ∧ u = .pointer (some ⟨b, j * t.w + k, none⟩) ∧
      us.length = t.w ∧ (∀ q, q < t.w → w.cell? ⟨b, j * t.w + q, none⟩ = us[q]?) ∧ Rd (okS R [n]) w t us x
  | .fn f l, u => u = .func (.func f) #[] (l.map fun n => Value.pointer (some ⟨R.bk n, 0, none⟩)).toArray
  | .bot, _ => True
def VRs (R : Rz) (w : World) : List CV → List Value → Prop
  | [], us => us = []
  | c :: l, us => ∃ u us', us = u :: us' ∧ VRc R w c u ∧ VRs R w l us'
mutual
def VR (R : Rz) (w : World) : AV → Value → Prop
  | .c x, u => VRc R w x u
  | .agg l, u => ∃ us, u = .agg us ∧ VRs R w l us.toList
  | .tup l, u => ∃ us, u = .tuple us ∧ VRt R w l us.toList
def VRt (R : Rz) (w : World) : List AV → List Value → Prop
  | [], us => us = []
  | x :: l, us => ∃ u us', us = u :: us' ∧ VR R w x u ∧ VRt R w l us'
end
/-- The cells of an element of the tree n. -/
def ElO (R : Rz) (w : World) (n : Nat) : (t : Ty) → List Value → t.den → Prop
  | .int k, us, x => us = [.int k x]
  | .bool, us, x => us = [.bool x]
  | .str, us, x => us = [.string x]
  | .prod a b, us, x => ∃ u1 u2, us = u1 ++ u2 ∧ ElO R w n a u1 x.1 ∧ ElO R w n b u2 x.2
  | .row e t, us, ys => t.flat = true ∧ ∃ u, us = [u] ∧ RowO R w n e t u ys
/-- No two cells hold slices of the same block. -/
def InjC (cur : List Value) (len wd : Nat) (h : Option (Nat × Nat)) (b0 : Nat) : Prop :=
  ∀ c b l k, c < len * wd → ¬ inH h (c / wd) → cur[c]? = some (.slice (some ⟨b, 0, none⟩) l k) → b ≠ b0 ∧
    ∀ c' l' k', c' < len * wd → ¬ inH h (c' / wd) → cur[c']? = some (.slice (some ⟨b, 0, none⟩) l' k') → c' = c
def OR (R : Rz) (w : World) (n : Nat) : Ob → Prop
  | .box l => ∃ us T, w.heap[R.bk n]? = some (.cells us T (0, 0)) ∧ R.root (R.bk n) = n ∧ VRs R w l us.toList
  | .row e t xs S => (R.hd n = .slice none 0 0 ∧ xs = []) ∨
      ∃ cap cur, R.hd n = .slice (some ⟨R.bk n, 0, none⟩) xs.length cap ∧ R.root (R.bk n) = n ∧ w.heap[R.bk n]? = some (.cells cur e (0, 0)) ∧ xs.length ≤ cap ∧ cap ≤ maxLen ∧ cur.size = cap * t.w ∧
        ∀ i (h : i < xs.length), Rd (okS R S) w t ((cur.toList.drop (i * t.w)).take t.w) xs[i]
  | .tree e t xs h => (R.hd n = .slice none 0 0 ∧ xs = []) ∨
      ∃ cap cur, R.hd n = .slice (some ⟨R.bk n, 0, none⟩) xs.length cap ∧ R.root (R.bk n) = n ∧ w.heap[R.bk n]? = some (.cells cur e (0, 0)) ∧ xs.length ≤ cap ∧ cap ≤ maxLen ∧ cur.size = cap * t.w ∧
        (∀ i (hi : i < xs.length), ¬ inH h i → ElO R w n t ((cur.toList.drop (i * t.w)).take t.w) xs[i]) ∧ InjC cur.toList xs.length t.w h (R.bk n)

/-- The names whose contents a value reads, and the names whose place it holds. -/
def CV.srcs : CV → List Nat
  | .rd S _ _ _ | .pt S _ _ _ => S
  | .sub n _ _ _ _ _ _ | .pi n _ _ _ _ _ _ _ => [n]
  | _ => []
def CV.ids : CV → List Nat
  | .ow n | .po n _ | .pe n _ _ _ | .sub n _ _ _ _ _ _ | .pi n _ _ _ _ _ _ _ => [n]
  | .fn _ l => l
  | _ => []
/-- Names have been written (N) or given to other places (M): what is still known. -/
def CV.hit (N M : List Nat) (c : CV) : Bool := c.srcs.any (fun n => N.contains n) || c.ids.any (fun n => M.contains n)
def CV.kill (N M : List Nat) (c : CV) : CV := if c.hit N M then .bot else c
mutual
def AV.kill (N M : List Nat) : AV → AV
  | .c x => .c (x.kill N M)
  | .agg l => .agg (l.map (CV.kill N M))
  | .tup l => .tup (AV.killL N M l)
def AV.killL (N M : List Nat) : List AV → List AV
  | [] => []
  | x :: l => x.kill N M :: AV.killL N M l
end
def Ob.kill (N M : List Nat) : Ob → Option Ob
  | .box l => some (.box (l.map (CV.kill N M)))
  | .row e t xs S => if S.any (fun n => N.contains n) then none else some (.row e t xs S)
  | .tree e t xs h => some (.tree e t xs h)

/-- From (R, w) to (R', w') only the contents of N may have turned, and the places of M. -/
structure FR (N M : List Nat) (R : Rz) (w : World) (R' : Rz) (w' : World) : Prop where
  os : w'.os = w.os
  tape : w'.tape = w.tape
  output : w'.output = w.output
  size : w.heap.size ≤ w'.heap.size
  keep : ∀ b, b < w.heap.size → R.root b ∉ N → w'.heap[b]? = w.heap[b]? ∧ R'.root b = R.root b
  hd : ∀ n, n ∉ M → R'.hd n = R.hd n ∧ R'.bk n = R.bk n
  lo : ∀ n, n < 100 → R'.hd n = R.hd n ∧ R'.bk n = R.bk n
theorem FR.refl (N M : List Nat) (R : Rz) (w : World) : FR N M R w R w := ⟨rfl, rfl, rfl, Nat.le_refl _, fun _ _ _ => ⟨rfl, rfl⟩, fun _ _ => ⟨rfl, rfl⟩, fun _ _ => ⟨rfl, rfl⟩⟩
theorem FR.mono {N N' M M' : List Nat} {R R' : Rz} {w w' : World} (h : FR N M R w R' w') (hN : ∀ n ∈ N, n ∈ N') (hM : ∀ n ∈ M, n ∈ M') : FR N' M' R w R' w' :=
  ⟨h.os, h.tape, h.output, h.size, fun b hb hr => h.keep b hb (fun hn => hr (hN _ hn)), fun n hn => h.hd n (fun h' => hn (hM _ h')), h.lo⟩
theorem FR.trans {N M : List Nat} {R R1 R2 : Rz} {w w1 w2 : World} (h : FR N M R w R1 w1) (k : FR N M R1 w1 R2 w2) : FR N M R w R2 w2 :=
  ⟨k.os.trans h.os, k.tape.trans h.tape, k.output.trans h.output, Nat.le_trans h.size k.size, fun b hb hr => by
    obtain ⟨h1, h2⟩ := h.keep b hb hr
    obtain ⟨k1, k2⟩ := k.keep b (Nat.lt_of_lt_of_le hb h.size) (by rw [h2]; exact hr)
    exact ⟨k1.trans h1, k2.trans h2⟩, fun n hn => ⟨(k.hd n hn).1.trans (h.hd n hn).1, (k.hd n hn).2.trans (h.hd n hn).2⟩, fun n hn => ⟨(k.lo n hn).1.trans (h.lo n hn).1, (k.lo n hn).2.trans (h.lo n hn).2⟩⟩

section
variable {N M : List Nat} {R R' : Rz} {w w' : World}
theorem okS.frame {S : List Nat} (h : FR N M R w R' w') (h0 : 0 ∉ N) (hS : ∀ n ∈ S, n ∉ N) {b : Nat} (hb : b < w.heap.size) (ho : okS R S b) : okS R' S b ∧ w'.heap[b]? = w.heap[b]? := by
  have hr : R.root b ∉ N := by
    rcases ho with ho | ho
    · rw [ho]; exact h0
    · exact hS _ ho
  obtain ⟨h1, h2⟩ := h.keep b hb hr
  exact ⟨by unfold okS; rw [h2]; exact ho, h1⟩
theorem Rd.fr {S : List Nat} {t : Ty} {us : List Value} {x : t.den} (h : Rd (okS R S) w t us x) (hf : FR N M R w R' w') (h0 : 0 ∉ N) (hS : ∀ n ∈ S, n ∉ N) : Rd (okS R' S) w' t us x :=
  h.frame fun _ hb ho => okS.frame hf h0 hS hb ho
theorem any_false {S N : List Nat} (h : S.any (fun n => N.contains n) = false) : ∀ n ∈ S, n ∉ N := by
  intro n hn hN
  have := List.any_eq_false.1 h n hn
  simp [hN] at this
theorem RowO.fr {n : Nat} {e : TypeId} {t : Ty} {u : Value} {ys : List t.den} (h : RowO R w n e t u ys) (hf : FR N M R w R' w') (h0 : 0 ∉ N) (hn : n ∉ N) : RowO R' w' n e t u ys := by
  rcases h with h | ⟨b, cap, cur, h1, h2, h3, h4, h5, h6, h7⟩
  · exact .inl h
  · have hlt := (Array.getElem?_eq_some_iff.1 h3).1
    obtain ⟨k1, k2⟩ := hf.keep _ hlt (by rw [h2]; exact hn)
    exact .inr ⟨b, cap, cur, h1, by rw [k2]; exact h2, by rw [k1]; exact h3, h4, h5, h6, fun i hi => (h7 i hi).fr hf h0 (by simp)⟩
theorem VRc.fr {c : CV} {u : Value} (h : VRc R w c u) (hf : FR N M R w R' w') (h0 : 0 ∉ N) (hh : c.hit N M = false) : VRc R' w' c u := by
  simp only [CV.hit, Bool.or_eq_false_iff] at hh
  obtain ⟨hS, hI⟩ := hh
  have hS := any_false hS
  have hI := any_false hI
  cases c with
  | sc v => exact h
  | rd S e t xs => exact Rd.fr h hf h0 hS
  | pt S t x k =>
    obtain ⟨b, o, us, rfl, hb, hl, hc, hr⟩ := h
    have hlt : b < w.heap.size := by
      have h1 := hc 0 t.w_pos
      have h2 : us[0]? = some (us[0]'(by have := t.w_pos; omega)) := List.getElem?_eq_getElem _
      rw [h2] at h1
      exact World.block_lt_of_cell? w _ h1
    obtain ⟨h1, h2⟩ := okS.frame hf h0 hS hlt hb
    exact ⟨b, o, us, rfl, h1, hl, fun j hj => (World.cell?_of_block (w := w) (a := ⟨b, o + j, none⟩) h2).trans (hc j hj), hr.fr hf h0 hS⟩
  | ow n => exact h.trans (hf.hd n (hI n (by simp [CV.ids]))).1.symm
  | po n o => exact h.trans (by rw [(hf.hd n (hI n (by simp [CV.ids]))).2])
  | pe n i wd o => exact h.trans (by rw [(hf.hd n (hI n (by simp [CV.ids]))).2])
  | sub n i wd o e t xs =>
    obtain ⟨h1, h2, h3⟩ := h
    obtain ⟨k1, k2⟩ := hf.keep _ (World.block_lt_of_cell? w _ h1) (by rw [h2]; exact hS n (by simp [CV.srcs]))
    have e1 := (hf.hd n (hI n (by simp [CV.ids]))).2
    exact ⟨by rw [e1]; exact (World.cell?_of_block (w := w) (a := ⟨R.bk n, i * wd + o, none⟩) k1).trans h1, by rw [e1, k2]; exact h2, h3.fr hf h0 (hS n (by simp [CV.srcs]))⟩
  | pi n i wd o j t x k =>
    obtain ⟨b, l, cap, us, h1, h2, h3, h4, h5, h6, h7⟩ := h
    have hnN := hS n (by simp [CV.srcs])
    obtain ⟨k1, k2⟩ := hf.keep _ (World.block_lt_of_cell? w _ h1) (by rw [h2]; exact hnN)
    have e1 := (hf.hd n (hI n (by simp [CV.ids]))).2
    have hlt : b < w.heap.size := by
      have q1 := h6 0 t.w_pos
      have q2 : us[0]? = some (us[0]'(by have := t.w_pos; omega)) := List.getElem?_eq_getElem _
      rw [q2] at q1
      exact World.block_lt_of_cell? w _ q1
    obtain ⟨k3, k4⟩ := hf.keep _ hlt (by rw [h3]; exact hnN)
    exact ⟨b, l, cap, us, by rw [e1]; exact (World.cell?_of_block (w := w) (a := ⟨R.bk n, i * wd + o, none⟩) k1).trans h1, by rw [e1, k2]; exact h2, by rw [k4]; exact h3, h4, h5,
      fun q hq => (World.cell?_of_block (w := w) (a := ⟨b, j * t.w + q, none⟩) k3).trans (h6 q hq), h7.fr hf h0 hS⟩
  | fn f l =>
    refine h.trans ?_
    congr 2
    exact List.map_congr_left fun n hn => by rw [(hf.hd n (hI n (by simpa [CV.ids] using hn))).2]
  | bot => trivial
theorem VRc.kill {c : CV} {u : Value} (h : VRc R w c u) (hf : FR N M R w R' w') (h0 : 0 ∉ N) : VRc R' w' (c.kill N M) u := by
  unfold CV.kill
  split
  · trivial
  · rename_i hh
    exact h.fr hf h0 (by simpa using hh)
theorem VRs.kill {l : List CV} {us : List Value} (h : VRs R w l us) (hf : FR N M R w R' w') (h0 : 0 ∉ N) : VRs R' w' (l.map (CV.kill N M)) us := by
  induction l generalizing us with
  | nil => exact h
  | cons c l ih =>
    obtain ⟨u, us', rfl, h1, h2⟩ := h
    exact ⟨u, us', rfl, h1.kill hf h0, ih h2⟩
mutual
theorem VR.kill {x : AV} {u : Value} (h : VR R w x u) (hf : FR N M R w R' w') (h0 : 0 ∉ N) : VR R' w' (x.kill N M) u := by
  match x with
  | .c x => simp only [VR, AV.kill] at h ⊢; exact VRc.kill h hf h0
  | .agg l =>
    simp only [VR, AV.kill] at h ⊢
    obtain ⟨us, rfl, h1⟩ := h
    exact ⟨us, rfl, h1.kill hf h0⟩
  | .tup l =>
    simp only [VR, AV.kill] at h ⊢
    obtain ⟨us, rfl, h1⟩ := h
    exact ⟨us, rfl, VRt.kill h1 hf h0⟩
theorem VRt.kill {l : List AV} {us : List Value} (h : VRt R w l us) (hf : FR N M R w R' w') (h0 : 0 ∉ N) : VRt R' w' (AV.killL N M l) us := by
  match l with
  | [] => simpa only [VRt, AV.killL] using h
  | x :: l =>
    simp only [VRt, AV.killL] at h ⊢
    obtain ⟨u, us', rfl, h1, h2⟩ := h
    exact ⟨u, us', rfl, VR.kill h1 hf h0, VRt.kill h2 hf h0⟩
end
theorem ElO.fr {n : Nat} {t : Ty} {us : List Value} {x : t.den} (h : ElO R w n t us x) (hf : FR N M R w R' w') (h0 : 0 ∉ N) (hn : n ∉ N) : ElO R' w' n t us x := by
  induction t generalizing us with
  | int k => exact h
  | bool => exact h
  | str => exact h
  | prod a b ha hb =>
    obtain ⟨u1, u2, rfl, h1, h2⟩ := h
    exact ⟨u1, u2, rfl, ha h1, hb h2⟩
  | row e t ih =>
    obtain ⟨h1, u, rfl, h2⟩ := h
    exact ⟨h1, u, rfl, h2.fr hf h0 hn⟩
theorem OR.kill {n : Nat} {o o' : Ob} (h : OR R w n o) (hf : FR N M R w R' w') (h0 : 0 ∉ N) (hn : n ∉ N) (hm : n ∉ M) (ho : o.kill N M = some o') : OR R' w' n o' := by
  obtain ⟨e1, e2⟩ := hf.hd n hm
  cases o with
  | box l =>
    simp only [Ob.kill, Option.some.injEq] at ho
    subst ho
    obtain ⟨us, T, h1, h2, h3⟩ := h
    have hlt := (Array.getElem?_eq_some_iff.1 h1).1
    obtain ⟨k1, k2⟩ := hf.keep _ hlt (by rw [h2]; exact hn)
    exact ⟨us, T, by rw [e2, k1]; exact h1, by rw [e2, k2]; exact h2, h3.kill hf h0⟩
  | row e t xs S =>
    simp only [Ob.kill] at ho
    split at ho
    · cases ho
    rename_i hS
    have hS := any_false (by simpa using hS)
    cases ho
    rcases h with ⟨h1, h2⟩ | ⟨cap, cur, h1, h2, h3, h4, h5, h6, h7⟩
    · exact .inl ⟨by rw [e1]; exact h1, h2⟩
    · have hlt := (Array.getElem?_eq_some_iff.1 h3).1
      obtain ⟨k1, k2⟩ := hf.keep _ hlt (by rw [h2]; exact hn)
      exact .inr ⟨cap, cur, by rw [e1, e2]; exact h1, by rw [e2, k2]; exact h2, by rw [e2, k1]; exact h3, h4, h5, h6, fun i hi => (h7 i hi).fr hf h0 hS⟩
  | tree e t xs h' =>
    simp only [Ob.kill, Option.some.injEq] at ho
    subst ho
    rcases h with ⟨h1, h2⟩ | ⟨cap, cur, h1, h2, h3, h4, h5, h6, h7, h8⟩
    · exact .inl ⟨by rw [e1]; exact h1, h2⟩
    · have hlt := (Array.getElem?_eq_some_iff.1 h3).1
      obtain ⟨k1, k2⟩ := hf.keep _ hlt (by rw [h2]; exact hn)
      exact .inr ⟨cap, cur, by rw [e1, e2]; exact h1, by rw [e2, k2]; exact h2, by rw [e2, k1]; exact h3, h4, h5, h6, fun i hi hh => (h7 i hi hh).fr hf h0 hn, by rw [e2]; exact h8⟩
end

/-- The abstract state: what the slots hold, and the objects of the call's own. -/
structure St where
  tm : List AV
  ob : List (Nat × Ob)
def St.get (σ : St) (i : Nat) : AV := (σ.tm[i]?).getD (.c .bot)
def lookOb (n : Nat) : List (Nat × Ob) → Option Ob
  | [] => none
  | (m, o) :: l => if m = n then some o else lookOb n l
def killObs (N M : List Nat) : List (Nat × Ob) → List (Nat × Ob)
  | [] => []
  | (m, o) :: l => if N.contains m || M.contains m then killObs N M l else
      match o.kill N M with
      | some o' => (m, o') :: killObs N M l
      | none => killObs N M l
/-- The result r is laid into slot dst, N and M have been written, the objects news are new. -/
def St.fin (σ : St) (dst : Option Nat) (N M : List Nat) (r : AV) (news : List (Nat × Ob)) : St :=
  let tm := if N.isEmpty && M.isEmpty then σ.tm else AV.killL N M σ.tm
  { tm := match dst with | some d => tm.set d r | none => tm, ob := news ++ (if N.isEmpty && M.isEmpty then σ.ob else killObs N M σ.ob) }

def obsOk (R : Rz) (w : World) (l : List (Nat × Ob)) : Prop := ∀ p ∈ l, OR R w p.1 p.2
theorem lookOb_mem {n : Nat} {o : Ob} {l : List (Nat × Ob)} (h : lookOb n l = some o) : (n, o) ∈ l := by
  induction l with
  | nil => simp [lookOb] at h
  | cons p l ih =>
    obtain ⟨m, q⟩ := p
    simp only [lookOb] at h
    split at h
    · rename_i e; cases h; subst e; exact List.mem_cons_self
    · exact List.mem_cons_of_mem _ (ih h)
theorem mem_kill {N M : List Nat} {l : List (Nat × Ob)} {p : Nat × Ob} (h : p ∈ killObs N M l) :
    ∃ q ∈ l, p.1 = q.1 ∧ q.1 ∉ N ∧ q.1 ∉ M ∧ q.2.kill N M = some p.2 := by
  induction l with
  | nil => simp [killObs] at h
  | cons q l ih =>
    obtain ⟨m, o⟩ := q
    simp only [killObs] at h
    split at h
    · obtain ⟨q, h3, h4⟩ := ih h
      exact ⟨q, List.mem_cons_of_mem _ h3, h4⟩
    · rename_i hc
      simp only [Bool.or_eq_true, List.contains_iff_mem, not_or] at hc
      split at h
      · rename_i o1 ho1
        rcases List.mem_cons.1 h with rfl | h
        · exact ⟨(m, o), List.mem_cons_self, rfl, hc.1, hc.2, ho1⟩
        · obtain ⟨q, h3, h4⟩ := ih h
          exact ⟨q, List.mem_cons_of_mem _ h3, h4⟩
      · obtain ⟨q, h3, h4⟩ := ih h
        exact ⟨q, List.mem_cons_of_mem _ h3, h4⟩
theorem obsOk.kill {N M : List Nat} {R R' : Rz} {w w' : World} {l : List (Nat × Ob)} (h : obsOk R w l) (hf : FR N M R w R' w') (h0 : 0 ∉ N) : obsOk R' w' (killObs N M l) := by
  intro p hp
  obtain ⟨q, hq, e, h1, h2, h3⟩ := mem_kill hp
  rw [e]
  exact OR.kill (h q hq) hf h0 h1 h2 h3

/-- A call's view: at its beginning (R0, w0) what belongs to others (names up to 5) stays as it is. -/
structure Sim (R0 : Rz) (w0 : World) (R : Rz) (σ : St) (a : Act) (w : World) : Prop where
  size : a.tmps.size = σ.tm.length
  tm : VRt R w σ.tm a.tmps.toList
  ob : obsOk R w σ.ob
  os : w.os = w0.os
  tape : w.tape = w0.tape
  output : w.output = w0.output
  grow : w0.heap.size ≤ w.heap.size
  keep : ∀ b, b < w0.heap.size → R0.root b ≤ 5 → w.heap[b]? = w0.heap[b]? ∧ R.root b = R0.root b
  pl : ∀ n, 30 ≤ n → n < 46 → R.hd n = R0.hd n ∧ R.bk n = R0.bk n
  defers : a.defers = []

theorem VRt.length {R : Rz} {w : World} {l : List AV} {us : List Value} (h : VRt R w l us) : us.length = l.length := by
  induction l generalizing us with
  | nil => simp only [VRt] at h; simp [h]
  | cons x l ih =>
    simp only [VRt] at h
    obtain ⟨u, us', rfl, _, h2⟩ := h
    simp [ih h2]
theorem VRt.get {R : Rz} {w : World} {l : List AV} {us : List Value} (h : VRt R w l us) (i : Nat) {x : AV} (hx : l[i]? = some x) : ∃ u, us[i]? = some u ∧ VR R w x u := by
  induction l generalizing us i with
  | nil => simp at hx
  | cons y l ih =>
    simp only [VRt] at h
    obtain ⟨u, us', rfl, h1, h2⟩ := h
    cases i with
    | zero => simp at hx; subst hx; exact ⟨u, rfl, h1⟩
    | succ i => simp at hx; simpa using ih h2 i hx
theorem VRt.set {R : Rz} {w : World} {l : List AV} {us : List Value} (h : VRt R w l us) (i : Nat) {x : AV} {u : Value} (hx : VR R w x u) : VRt R w (l.set i x) (us.set i u) := by
  induction l generalizing us i with
  | nil => simp only [VRt] at h; subst h; simp [VRt]
  | cons y l ih =>
    simp only [VRt] at h
    obtain ⟨u', us', rfl, h1, h2⟩ := h
    cases i with
    | zero => simp only [List.set_cons_zero, VRt]; exact ⟨u, us', rfl, hx, h2⟩
    | succ i => simp only [List.set_cons_succ, VRt]; exact ⟨u', _, rfl, h1, ih h2 i⟩
theorem Sim.get {R0 R : Rz} {w0 w : World} {σ : St} {a : Act} (h : Sim R0 w0 R σ a w) (i : Nat) : VR R w (σ.get i) (a.tmps.getD i undef) := by
  unfold St.get
  cases hx : σ.tm[i]? with
  | none => simp [VR, VRc]
  | some x =>
    obtain ⟨u, h1, h2⟩ := h.tm.get i hx
    have : a.tmps.getD i undef = u := by
      rw [Array.getElem?_toList] at h1
      simp [Array.getD_eq_getD_getElem?, h1]
    rw [this]; exact h2
/-- One operation has been done: its result is in its slot. -/
theorem Sim.fin {R0 R R' : Rz} {w0 w w' : World} {σ : St} {a : Act} {N M : List Nat} {dst : Option Tmp} {r : AV} {v : Value} {news : List (Nat × Ob)} (h : Sim R0 w0 R σ a w)
    (hf : FR N M R w R' w') (hN : ∀ n ∈ N, 5 < n) (hr : VR R' w' r v) (hn : obsOk R' w' news) : Sim R0 w0 R' (σ.fin dst N M r news) (a.put dst v) w' := by
  have h0 : 0 ∉ N := fun h => by have := hN 0 h; omega
  have htm : VRt R' w' (if N.isEmpty && M.isEmpty then σ.tm else AV.killL N M σ.tm) a.tmps.toList := by
    split
    · rename_i e
      simp only [Bool.and_eq_true, List.isEmpty_iff] at e
      obtain ⟨rfl, rfl⟩ := e
      have := VRt.kill h.tm hf h0
      have e2 : ∀ l, AV.killL [] [] l = l := by
        intro l
        have hc : ∀ c : CV, c.kill [] [] = c := fun c => by simp [CV.kill, CV.hit]
        have hv : ∀ x : AV, x.kill [] [] = x := by
          intro x
          refine AV.rec (motive_1 := fun x => x.kill [] [] = x) (motive_2 := fun l => AV.killL [] [] l = l) ?_ ?_ ?_ ?_ ?_ x
          · intro x; simp [AV.kill, hc]
          · intro l; simp only [AV.kill]; congr 1; exact (List.map_congr_left (fun c _ => hc c)).trans (List.map_id _)
          · intro l ih; simp [AV.kill, ih]
          · simp [AV.killL]
          · intro x l h1 h2; simp [AV.killL, h1, h2]
        induction l with
        | nil => rfl
        | cons x l ih => simp [AV.killL, hv, ih]
      rw [e2] at this
      exact this
    · exact VRt.kill h.tm hf h0
  have hlen : (if N.isEmpty && M.isEmpty then σ.tm else AV.killL N M σ.tm).length = σ.tm.length := by
    have := htm.length; rw [← this]; simp [h.size]
  refine ⟨?_, ?_, ?_, hf.os.trans h.os, hf.tape.trans h.tape, hf.output.trans h.output, Nat.le_trans h.grow hf.size, fun b hb h1 => ?_, fun n h30 h46 => ⟨(hf.lo n (by omega)).1.trans (h.pl n h30 h46).1, (hf.lo n (by omega)).2.trans (h.pl n h30 h46).2⟩, ?_⟩
  · cases dst with
    | none => simp only [Act.put, St.fin]; rw [hlen]; exact h.size
    | some d => simp only [Act.put, St.fin, Array.size_setIfInBounds, List.length_set]; rw [hlen]; exact h.size
  · cases dst with
    | none => simpa only [Act.put, St.fin] using htm
    | some d => simp only [Act.put, St.fin, Array.toList_setIfInBounds]; exact htm.set d hr
  · intro p hp
    simp only [St.fin, List.mem_append] at hp
    rcases hp with hp | hp
    · exact hn p hp
    · split at hp
      · rename_i e
        simp only [Bool.and_eq_true, List.isEmpty_iff] at e
        obtain ⟨rfl, rfl⟩ := e
        refine OR.kill (h.ob p hp) hf h0 (by simp) (by simp) ?_
        cases hp2 : p.2 with
        | box l =>
          have hc : ∀ c : CV, c.kill [] [] = c := fun c => by simp [CV.kill, CV.hit]
          simp only [Ob.kill, Option.some.injEq, Ob.box.injEq]
          exact (List.map_congr_left (fun c _ => hc c)).trans (List.map_id _)
        | row e t xs S => simp [Ob.kill]
        | tree e t xs h' => simp [Ob.kill]
      · exact h.ob.kill hf h0 p hp
  · obtain ⟨h2, h3⟩ := h.keep b hb h1
    obtain ⟨k1, k2⟩ := hf.keep b (Nat.lt_of_lt_of_le hb h.grow) (fun hm => by rw [h3] at hm; have := hN _ hm; omega)
    exact ⟨k1.trans h2, k2.trans h3⟩
  · cases dst <;> exact h.defers

end Go.Proofs.Ythglggjgjlmhlaa
