/-
  The logic of trees, eleventh part: calls; all operations; statements; bodies of functions.
-/
import Derived.Test.YthglggjgjlmhlaaGj
namespace Go.Proofs.Ythglggjgjlmhlaa
open Go.RowKit
set_option linter.unusedSimpArgs false
set_option linter.unusedVariables false

def nms (d : Option Tmp) : List Nat := [nm d, nm d + 1, nm d + 2, nm d + 3, nm d + 4, nm d + 5, nm d + 6, nm d + 7, nm d + 8, nm d + 9, nm d + 10, nm d + 11, nm d + 12, nm d + 13, nm d + 14, nm d + 15]
theorem mem_nms {d : Option Tmp} {n : Nat} : n ∈ nms d ↔ nm d ≤ n ∧ n < nm d + 16 := by
  simp only [nms, List.mem_cons, List.not_mem_nil, or_false]; omega
def outN (d : Option Tmp) (k : Nat) : Nat := nm d + k
def aCallP (k : Con) (σ : St) (d : Option Tmp) (args : List AV) : Option Res :=
  match decs σ k.ps args with
  | some (c, x, S) => if S.any (fun n => (nms d).contains n) ∨ 8 < rowsOf k.rs then none else
      some ⟨c ∧ k.c x, outAll (outN d) S k.rs (k.r x), if rowsOf k.rs = 0 then [] else nms d, if rowsOf k.rs = 0 then [] else nms d, outOs (outN d) S 0 k.rs (k.r x)⟩
  | none => none

/-- What a callee has made comes into the caller's view. -/
def Rz.take (R : Rz) (d : Option Tmp) (n : Nat) (R' : Rz) : Rz :=
  { root := fun b => if b < n then (if R.root b ∈ nms d then 1 else R.root b) else if 10 ≤ R'.root b ∧ R'.root b < 26 then nm d + (R'.root b - 10) else if R'.root b = 0 then 0 else 1
    hd := fun m => if nm d ≤ m ∧ m < nm d + 16 then R'.hd (m - nm d + 10) else R.hd m
    bk := fun m => if nm d ≤ m ∧ m < nm d + 16 then R'.bk (m - nm d + 10) else R.bk m }
section
variable {P : Program} {R0 R R' : Rz} {w0 w w' : World} {σ : St} {a : Act} {o : Oper} {K : Act → World → Prop} {Q : Exit → Act → World → Prop} {d : Option Tmp} {S : List Nat}
theorem fr_take (h : Keeps (R.hide S) w R' w') : FR (nms d) (nms d) R w (R.take d w.heap.size R') w' := by
  refine ⟨h.os, h.tape, h.output, h.size, fun b hb hr => ?_, fun m hm => ?_, fun m hm => ?_⟩
  · obtain ⟨h1, _⟩ := h.keep b hb (by show (if _ then _ else _) ≤ 5; split <;> omega)
    exact ⟨h1, by simp [Rz.take, hb, hr]⟩
  · rw [mem_nms] at hm
    simp [Rz.take, hm]
  · have h1 := nm_ge d
    have : ¬ (nm d ≤ m ∧ m < nm d + 16) := by omega
    simp [Rz.take, this]
/-- A block that the callee reads or owns. -/
theorem okS_take (h : Keeps (R.hide S) w R' w') (hS : ∀ n ∈ S, n ∉ nms d) {L : List Nat} (hL : ∀ n ∈ L, 10 ≤ n ∧ n < 26) {b : Nat} (hb : okS R' L b) :
    okS (R.take d w.heap.size R') (L.map (fun n => nm d + (n - 10)) ++ S) b := by
  unfold okS
  by_cases hlt : b < w.heap.size
  · obtain ⟨_, h2⟩ := h.keep b hlt (by show (if _ then _ else _) ≤ 5; split <;> omega)
    have hz : R'.root b = 0 := by
      rcases hb with hb | hb
      · exact hb
      · have := (hL _ hb).1
        rw [h2] at this
        have : (if R.root b = 0 ∨ R.root b ∈ S then 0 else 5) ≥ 10 := this
        split at this <;> omega
    rw [h2] at hz
    have hz : (if R.root b = 0 ∨ R.root b ∈ S then 0 else 5) = 0 := hz
    have hz : R.root b = 0 ∨ R.root b ∈ S := by
      by_cases h : R.root b = 0 ∨ R.root b ∈ S
      · exact h
      · rw [if_neg h] at hz; omega
    have hn : R.root b ∉ nms d := by
      rcases hz with hz | hz
      · rw [hz, mem_nms]; have := nm_lt d; omega
      · exact hS _ hz
    have e : (R.take d w.heap.size R').root b = R.root b := by simp [Rz.take, hlt, hn]
    rw [e]
    exact hz.imp id (fun h => List.mem_append_right _ h)
  · rcases hb with hb | hb
    · left; simp [Rz.take, hlt, hb]
    · right
      have h1 := hL _ hb
      have e : (R.take d w.heap.size R').root b = nm d + (R'.root b - 10) := by simp [Rz.take, hlt, h1]
      rw [e]
      exact List.mem_append_left _ (List.mem_map.2 ⟨_, hb, rfl⟩)
theorem rd_take (h : Keeps (R.hide S) w R' w') (hS : ∀ n ∈ S, n ∉ nms d) {L : List Nat} (hL : ∀ n ∈ L, 10 ≤ n ∧ n < 26) {t : Ty} {us : List Value} {x : t.den} (hr : Rd (okS R' L) w' t us x) :
    Rd (okS (R.take d w.heap.size R') (L.map (fun n => nm d + (n - 10)) ++ S)) w' t us x :=
  hr.frame fun _ _ hb => ⟨okS_take h hS hL hb, rfl⟩
theorem hd_take {k : Nat} (hk : k < 16) : (R.take d w.heap.size R').hd (outN d k) = R'.hd (inN k) ∧ (R.take d w.heap.size R').bk (outN d k) = R'.bk (inN k) := by
  have e1 : nm d ≤ outN d k ∧ outN d k < nm d + 16 := by unfold outN; omega
  have e2 : outN d k - nm d + 10 = inN k := by unfold outN inN; omega
  constructor
  · show (if _ then R'.hd _ else _) = _; rw [if_pos e1, e2]
  · show (if _ then R'.bk _ else _) = _; rw [if_pos e1, e2]
theorem outC_take (h : Keeps (R.hide S) w R' w') (hS : ∀ n ∈ S, n ∉ nms d) {own : Bool} : ∀ {t : Ty} {k : Nat} {x : t.den} {us : List Value}, k + t.rows ≤ 8 → VRs R' w' (outC inN own [] k t x) us → VRs (R.take d w.heap.size R') w' (outC (outN d) own S k t x) us := by
  intro t
  induction t with
  | int q => intro k x us _ h1; exact h1
  | bool => intro k x us _ h1; exact h1
  | str => intro k x us _ h1; exact h1
  | row e t ih =>
    intro k x us hk h1
    simp only [outC] at h1 ⊢
    obtain ⟨u, rfl, h2⟩ := one_cell h1
    refine ⟨u, [], rfl, ?_, rfl⟩
    cases own with
    | true =>
      simp only [if_true, VRc] at h2 ⊢
      simp only [Ty.rows] at hk
      rw [h2, (hd_take (by omega)).1]
    | false =>
      simp only [Bool.false_eq_true, if_false, VRc] at h2 ⊢
      have := rd_take h hS (L := []) (by simp) h2
      simpa using this
  | prod p q hp hq =>
    intro k x us hk h1
    simp only [outC, Ty.rows] at h1 hk ⊢
    have e : ∀ {l1 l2 : List CV} {us : List Value}, VRs R' w' (l1 ++ l2) us → ∃ u1 u2, us = u1 ++ u2 ∧ VRs R' w' l1 u1 ∧ VRs R' w' l2 u2 := by
      intro l1
      induction l1 with
      | nil => intro l2 us h; exact ⟨[], us, rfl, rfl, h⟩
      | cons c l1 ih =>
        intro l2 us h
        obtain ⟨u, us', rfl, h3, h4⟩ := h
        obtain ⟨u1, u2, rfl, h5, h6⟩ := ih h4
        exact ⟨u :: u1, u2, rfl, ⟨u, u1, rfl, h3, h5⟩, h6⟩
    obtain ⟨u1, u2, rfl, h2, h3⟩ := e h1
    exact (hp (by omega) h2).append (hq (by omega) h3)
theorem outO_take (h : Keeps (R.hide S) w R' w') (hS : ∀ n ∈ S, n ∉ nms d) : ∀ {t : Ty} {k : Nat} {x : t.den}, k + t.rows ≤ 8 → obsOk R' w' (outO inN [] k t x) → obsOk (R.take d w.heap.size R') w' (outO (outN d) S k t x) := by
  intro t
  induction t with
  | int q => intro k x _ _ p hp; simp [outO] at hp
  | bool => intro k x _ _ p hp; simp [outO] at hp
  | str => intro k x _ _ p hp; simp [outO] at hp
  | row e t ih =>
    intro k x hk h1 p hp
    simp only [outO, List.mem_singleton] at hp
    subst hp
    simp only [Ty.rows] at hk
    obtain ⟨e1, e2⟩ := hd_take (R := R) (R' := R') (w := w) (d := d) (k := k) (by omega)
    have rt : ∀ b, R'.root b = inN k → (R.take d w.heap.size R').root b = outN d k := fun b hb => by
      have hge : ¬ b < w.heap.size := fun hlt => by
        obtain ⟨_, h10⟩ := h.keep _ hlt (by show (if _ then _ else _) ≤ 5; split <;> omega)
        rw [hb] at h10
        have h10 : inN k = (if _ then _ else _) := h10
        unfold inN at h10
        split at h10 <;> omega
      have hb : R'.root b = 10 + k := hb
      show (if _ then _ else _) = _
      rw [if_neg hge, hb, if_pos (by omega)]
      unfold outN; omega
    cases hf : t.flat with
    | true =>
      have h2 := h1 (inN k, .row e t x []) (by simp [outO, hf])
      simp only
      rcases h2 with ⟨h3, h4⟩ | ⟨cap, cur, h3, h4, h5, h6, h7, h8, h9⟩
      · exact .inl ⟨by rw [e1]; exact h3, h4⟩
      · exact .inr ⟨cap, cur, by rw [e1, e2]; exact h3, by rw [e2]; exact rt _ h4, by rw [e2]; exact h5, h6, h7, h8, fun i hi => Rd.flat hf (h9 i hi)⟩
    | false =>
      have h2 := h1 (inN k, .tree e t x none) (by simp [outO, hf])
      simp only
      rcases h2 with ⟨h3, h4⟩ | ⟨cap, cur, h3, h4, h5, h6, h7, h8, h9, h10⟩
      · exact .inl ⟨by rw [e1]; exact h3, h4⟩
      · exact .inr ⟨cap, cur, by rw [e1, e2]; exact h3, by rw [e2]; exact rt _ h4, by rw [e2]; exact h5, h6, h7, h8, fun i hi hh => (h9 i hi hh).mv fun c b l k hc hr hlt => ⟨rfl, rt b hr⟩, by rw [e2]; exact h10⟩
  | prod p q hp hq =>
    intro k x hk h1 z hz
    simp only [outO, Ty.rows, List.mem_append] at h1 hk hz
    rcases hz with hz | hz
    · exact hp (by omega) (fun p hp' => h1 p (by simp only [outO, List.mem_append]; exact .inl hp')) z hz
    · exact hq (by omega) (fun p hp' => h1 p (by simp only [outO, List.mem_append]; exact .inr hp')) z hz
theorem outA_take (h : Keeps (R.hide S) w R' w') (hS : ∀ n ∈ S, n ∉ nms d) {own : Bool} {t : Ty} {k : Nat} {x : t.den} {u : Value} (hk : k + t.rows ≤ 8) (h1 : VR R' w' (outA inN own [] k t x) u) : VR (R.take d w.heap.size R') w' (outA (outN d) own S k t x) u := by
  cases t with
  | int q => exact h1
  | bool => exact h1
  | str => exact h1
  | row e t =>
    have := outC_take (R := R) (d := d) h hS (own := own) (t := .row e t) (x := x) (k := k) (us := [u]) hk (by
      simp only [outC]; simp only [outA, VR] at h1; exact ⟨u, [], rfl, h1, rfl⟩)
    simp only [outC] at this
    obtain ⟨u', e1, h2⟩ := one_cell this
    simp only [List.cons.injEq, and_true] at e1
    subst e1
    simp only [outA, VR]
    exact h2
  | prod p q =>
    simp only [outA, VR] at h1 ⊢
    obtain ⟨us, rfl, h2⟩ := h1
    exact ⟨us, rfl, outC_take h hS hk h2⟩
theorem outL_take (h : Keeps (R.hide S) w R' w') (hS : ∀ n ∈ S, n ∉ nms d) : ∀ {rs : List RK} {k : Nat} {x : rdens rs} {us : List Value}, k + rowsOf rs ≤ 8 → VRt R' w' (outL inN [] k rs x) us → VRt (R.take d w.heap.size R') w' (outL (outN d) S k rs x) us := by
  intro rs
  induction rs with
  | nil => intro k x us _ h1; simpa only [outL, VRt] using h1
  | cons r l ih =>
    intro k x us hk h1
    simp only [rowsOf] at hk
    cases l with
    | nil =>
      simp only [outL, VRt] at h1 ⊢
      obtain ⟨u, us', rfl, h2, h3⟩ := h1
      exact ⟨u, us', rfl, outA_take h hS (by omega) h2, h3⟩
    | cons q l =>
      simp only [outL, VRt] at h1 ⊢
      obtain ⟨u, us', rfl, h2, h3⟩ := h1
      exact ⟨u, us', rfl, outA_take h hS (by omega) h2, ih (by omega) h3⟩
theorem outOs_take (h : Keeps (R.hide S) w R' w') (hS : ∀ n ∈ S, n ∉ nms d) : ∀ {rs : List RK} {k : Nat} {x : rdens rs}, k + rowsOf rs ≤ 8 → obsOk R' w' (outOs inN [] k rs x) → obsOk (R.take d w.heap.size R') w' (outOs (outN d) S k rs x) := by
  intro rs
  induction rs with
  | nil => intro k x _ _ p hp; simp [outOs] at hp
  | cons r l ih =>
    intro k x hk h1
    simp only [rowsOf] at hk
    cases l with
    | nil =>
      simp only [outOs] at h1 ⊢
      cases ho : r.own with
      | true => rw [ho] at h1; simp only [if_true] at h1 ⊢; exact outO_take h hS (by omega) h1
      | false => simp only [Bool.false_eq_true, if_false]; intro p hp; cases hp
    | cons q l =>
      simp only [outOs] at h1 ⊢
      intro p hp
      rcases List.mem_append.1 hp with hp | hp
      · cases ho : r.own with
        | true =>
          rw [ho] at h1 hp
          simp only [if_true] at h1 hp
          exact outO_take h hS (by omega) (fun z hz => h1 z (List.mem_append_left _ hz)) p hp
        | false => rw [ho] at hp; simp at hp
      · exact ih (by omega) (fun z hz => h1 z (List.mem_append_right _ hz)) p hp
theorem outAll_take (h : Keeps (R.hide S) w R' w') (hS : ∀ n ∈ S, n ∉ nms d) {rs : List RK} {x : rdens rs} {v : Value} (hk : rowsOf rs ≤ 8) (h1 : VR R' w' (outAll inN [] rs x) v) : VR (R.take d w.heap.size R') w' (outAll (outN d) S rs x) v := by
  have hl : ∀ us, VRt R' w' (outL inN [] 0 rs x) us → VRt (R.take d w.heap.size R') w' (outL (outN d) S 0 rs x) us := fun us => outL_take h hS (by omega)
  have hlen : (outL inN [] 0 rs x).length = (outL (outN d) S 0 rs x).length := by
    have : ∀ (rs : List RK) (f g : Nat → Nat) (S S' : List Nat) (k : Nat) (x : rdens rs), (outL f S k rs x).length = (outL g S' k rs x).length := by
      intro rs
      induction rs with
      | nil => intros; rfl
      | cons r l ih =>
        intro f g S S' k x
        cases l with
        | nil => rfl
        | cons q l => simp only [outL, List.length_cons]; rw [ih]
    exact this _ _ _ _ _ _ _
  unfold outAll at h1 ⊢
  generalize outL inN [] 0 rs x = l1 at *
  generalize outL (outN d) S 0 rs x = l2 at *
  match l1, l2, hlen with
  | [], [], _ =>
    simp only [VR] at h1 ⊢
    obtain ⟨us, rfl, h2⟩ := h1
    exact ⟨us, rfl, hl _ h2⟩
  | [p], [q], _ =>
    have := hl [v] (by simp only [VRt]; exact ⟨v, [], rfl, h1, rfl⟩)
    simp only [VRt, List.cons.injEq] at this
    obtain ⟨u, us', ⟨rfl, _⟩, h2, _⟩ := this
    exact h2
  | p :: p' :: l1, q :: q' :: l2, _ =>
    simp only [VR] at h1 ⊢
    obtain ⟨us, rfl, h2⟩ := h1
    exact ⟨us, rfl, hl _ h2⟩
theorem outC_flat {f f' : Nat → Nat} {own own' : Bool} {S S' : List Nat} {R R' : Rz} {w : World} : ∀ {t : Ty} {k k' : Nat} {x : t.den} {us : List Value}, t.rows = 0 → VRs R' w (outC f own S k t x) us → VRs R w (outC f' own' S' k' t x) us := by
  intro t
  induction t with
  | int q => intro k k' x us _ h1; exact h1
  | bool => intro k k' x us _ h1; exact h1
  | str => intro k k' x us _ h1; exact h1
  | row e t ih => intro k k' x us h0; simp [Ty.rows] at h0
  | prod p q hp hq =>
    intro k k' x us h0 h1
    simp only [outC] at h1 ⊢
    simp only [Ty.rows] at h0
    have e : ∀ {l1 l2 : List CV} {us : List Value}, VRs R' w (l1 ++ l2) us → ∃ u1 u2, us = u1 ++ u2 ∧ VRs R' w l1 u1 ∧ VRs R' w l2 u2 := by
      intro l1
      induction l1 with
      | nil => intro l2 us h; exact ⟨[], us, rfl, rfl, h⟩
      | cons c l1 ih =>
        intro l2 us h
        obtain ⟨u, us', rfl, h3, h4⟩ := h
        obtain ⟨u1, u2, rfl, h5, h6⟩ := ih h4
        exact ⟨u :: u1, u2, rfl, ⟨u, u1, rfl, h3, h5⟩, h6⟩
    obtain ⟨u1, u2, rfl, h2, h3⟩ := e h1
    exact (hp (by omega) h2).append (hq (by omega) h3)
theorem outA_flat {f f' : Nat → Nat} {own own' : Bool} {S S' : List Nat} {R R' : Rz} {w : World} {t : Ty} {k k' : Nat} {x : t.den} {v : Value} (h0 : t.rows = 0) (h1 : VR R' w (outA f own S k t x) v) : VR R w (outA f' own' S' k' t x) v := by
  cases t with
  | int q => simpa only [outA, VR, VRc] using h1
  | bool => simpa only [outA, VR, VRc] using h1
  | str => simpa only [outA, VR, VRc] using h1
  | row e t => simp [Ty.rows] at h0
  | prod p q =>
    simp only [outA, VR] at h1 ⊢
    obtain ⟨us, rfl, h2⟩ := h1
    exact ⟨us, rfl, outC_flat h0 h2⟩
theorem outL_flat {f f' : Nat → Nat} {S S' : List Nat} {R R' : Rz} {w : World} : ∀ {rs : List RK} {k k' : Nat} {x : rdens rs} {us : List Value}, rowsOf rs = 0 → VRt R' w (outL f S k rs x) us → VRt R w (outL f' S' k' rs x) us := by
  intro rs
  induction rs with
  | nil => intro k k' x us _ h; simpa only [outL, VRt] using h
  | cons r l ih =>
    intro k k' x us h0 h
    simp only [rowsOf] at h0
    cases l with
    | nil =>
      simp only [outL, VRt] at h ⊢
      obtain ⟨u, us', rfl, h1, h2⟩ := h
      exact ⟨u, us', rfl, outA_flat (by omega) h1, h2⟩
    | cons q l =>
      simp only [outL, VRt] at h ⊢
      obtain ⟨u, us', rfl, h1, h2⟩ := h
      exact ⟨u, us', rfl, outA_flat (by omega) h1, ih (by omega) h2⟩
theorem outAll_flat {f f' : Nat → Nat} {S S' : List Nat} {R R' : Rz} {w : World} {rs : List RK} {x : rdens rs} {v : Value} (h0 : rowsOf rs = 0) (h : VR R' w (outAll f S rs x) v) : VR R w (outAll f' S' rs x) v := by
  match rs, x with
  | [], x =>
    simp only [outAll, outL, VR] at h ⊢
    obtain ⟨us, rfl, h1⟩ := h
    exact ⟨us, rfl, by simpa only [VRt] using h1⟩
  | [r], x =>
    simp only [outAll, outL] at h ⊢
    exact outA_flat (by simpa [rowsOf] using h0) h
  | r :: q :: l, x =>
    have e1 : ∀ (f : Nat → Nat) (S : List Nat), outAll f S (r :: q :: l) x = .tup (outL f S 0 (r :: q :: l) x) := fun f S => by
      unfold outAll
      cases l with
      | nil => simp only [outL]
      | cons p l => simp only [outL]
    rw [e1] at h ⊢
    simp only [VR] at h ⊢
    obtain ⟨us, rfl, h1⟩ := h
    exact ⟨us, rfl, outL_flat h0 h1⟩
theorem outO_flat {f : Nat → Nat} {S : List Nat} : ∀ {t : Ty} {k : Nat} {x : t.den}, t.rows = 0 → outO f S k t x = [] := by
  intro t
  induction t with
  | row e t ih => intro k x h0; simp [Ty.rows] at h0
  | prod p q hp hq => intro k x h0; simp only [Ty.rows] at h0; simp only [outO, hp (k := k) (x := x.1) (by omega), hq (k := k + p.rows) (x := x.2) (by omega), List.append_nil]
  | _ => intro k x _; rfl
theorem outOs_flat {f : Nat → Nat} {S : List Nat} : ∀ {rs : List RK} {k : Nat} {x : rdens rs}, rowsOf rs = 0 → outOs f S k rs x = [] := by
  intro rs
  induction rs with
  | nil => intro k x _; rfl
  | cons r l ih =>
    intro k x h0
    simp only [rowsOf] at h0
    cases l with
    | nil => simp only [outOs]; rw [outO_flat (by omega)]; simp
    | cons q l => simp only [outOs]; rw [outO_flat (by omega), ih (by omega)]; simp
/-- The operation enters the function f with the values us. -/
def Enters (P : Program) (a : Act) (o : Oper) (w : World) (f : FuncId) (us : Array Value) : Prop := (execOp a.eval o).run P w = .ok (.enter f us) w
theorem aCallP_ok {f : FuncId} {k : Con} {args : List AV} {us : Array Value} {r : Res} (hT : PureT P f k) (hrun : Enters P a o w f us) (hargs : VRt R w args us.toList)
    (h : aCallP k σ o.dst args = some r) (hc : r.c) (hs : Sim R0 w0 R σ a w)
    (hK : ∀ R' v w', Done R w r.N r.M r.r r.news R' v w' → K (a.put o.dst v) w') : o.wp P a w K Q := by
  unfold aCallP at h
  split at h
  case h_2 => cases h
  rename_i c x S e2
  split at h
  · cases h
  rename_i hcond
  simp only [not_or, Nat.not_lt, Bool.not_eq_true] at hcond
  cases h
  have hS := any_false hcond.1
  have h1 := decs_ok hs (S1 := S) (R1 := R.hide S) (fun _ h => okS_hide h) hargs e2 hc.1 (fun n hn => hn)
  have h2 := hT x hc.2 (R.hide S) w us h1
  unfold Oper.wp
  rw [show (execOp a.eval o).run P w = _ from hrun, Oper.upon_enter]
  refine h2.mono fun e w' hh => ?_
  obtain ⟨v, R', rfl, h3, h4, h5⟩ := hh
  simp only
  by_cases h0 : rowsOf k.rs = 0
  · refine hK R _ _ ⟨?_, fun n hn => ?_, outAll_flat h0 h3, ?_⟩
    · simp only [h0, if_true]
      refine ⟨h5.os, h5.tape, h5.output, h5.size, fun b hb _ => ⟨(h5.keep b hb ?_).1, rfl⟩, fun n _ => ⟨rfl, rfl⟩, fun n _ => ⟨rfl, rfl⟩⟩
      show (if _ then _ else _) ≤ 5
      split <;> omega
    · simp only [h0, if_true] at hn; cases hn
    · rw [outOs_flat h0]; intro p hp; cases hp
  have en : (if rowsOf k.rs = 0 then [] else nms o.dst) = nms o.dst := if_neg h0
  refine hK (R.take o.dst w.heap.size R') _ _ ⟨?_, fun n hn => ?_, outAll_take h5 hS hcond.2 h3, outOs_take h5 hS (by omega) h4⟩
  · simp only [en]; exact fr_take h5
  · simp only [en] at hn; rw [mem_nms] at hn; have := nm_lt o.dst; omega
end
end Go.Proofs.Ythglggjgjlmhlaa
