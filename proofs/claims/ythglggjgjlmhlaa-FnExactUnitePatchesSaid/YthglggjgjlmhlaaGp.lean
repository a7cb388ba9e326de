/-
  Plain facts for the walks: counters, lists, samples.
-/
import Derived.Test.YthglggjgjlmhlaaGn
import Derived.Test.YthglggjgjlmhlaaGr
import Derived.Test.YthglggjgjlmhlaaLib
import Derived.IntWalk
namespace Go.Proofs.Ythglggjgjlmhlaa
open Go.RowKit
set_option linter.unusedSimpArgs false
set_option linter.unusedVariables false

theorem sc_kill {v : Value} {N M : List Nat} : (AV.c (CV.sc v)).kill N M = .c (.sc v) := by simp [AV.kill, CV.kill, CV.hit, CV.srcs, CV.ids]
theorem obs_nil {N M : List Nat} : killObs N M [] = [] := rfl
/-- The state over which an operation is reckoned, looked at one slot at a time. -/
theorem sB_get (σ : St) (l D : List Nat) (i : Nat) : (sB σ l D).get i = if l.contains i then (σ.get i).kill D D else .c .bot := by
  unfold sB St.get
  rw [killL_get, keepAt_get, Nat.zero_add]
  split
  · rfl
  · exact bot_kill
theorem sB_ob (σ : St) (l D : List Nat) (n : Nat) : (sB σ l D).look n = lookOb n (killObs D D σ.ob) := rfl
theorem killObs_nil (l : List (Nat × Ob)) : killObs [] [] l = l := by
  induction l with
  | nil => rfl
  | cons p l ih =>
    obtain ⟨m, o⟩ := p
    have e : o.kill [] [] = some o := by
      cases o with
      | box l => simp only [Ob.kill]; congr 2; rw [List.map_congr_left (g := id) (fun c _ => CV.kill_nil c)]; simp
      | row e t xs S => simp [Ob.kill]
      | tree e t xs h' => simp [Ob.kill]
    simp [killObs, ih, e]
/-- The walk of a drawn region, what has been done last in front. -/
def adrawR (P : Program) (G : TypeId → Option Ty) (T : Tab) (dn : List (List Nat)) (all : List Oper) : List Oper → Nat → St → List DR → (St → List DR → Prop) → Prop
  | [], _, σ, acc, K => K σ acc
  | o :: l, i, σ, acc, K => match o.guard with
    | none => match aop P G T (sB σ (opSlots o) (dn.getD i [])) o with
      | some r => r.c ∧ adrawR P G T dn all l (i + 1) (finD σ o.dst (dn.getD i []) r) (⟨true, r⟩ :: acc) K
      | none => False
    | some (j, want) => match gnone σ all j with
      | true => adrawR P G T dn all l (i + 1) (finD σ o.dst (dn.getD i []) DR.none.r) (DR.none :: acc) K
      | false => match gval σ all j with
      | some (d, b) => gcase b want (match aop P G T (sB (σ.setb d want) (opSlots o) (dn.getD i [])) o with
          | some r => r.c ∧ adrawR P G T dn all l (i + 1) (finD (σ.setb d want) o.dst (dn.getD i []) r) (⟨true, r⟩ :: acc) K
          | none => False)
        (adrawR P G T dn all l (i + 1) (finD (σ.setb d (!want)) o.dst (dn.getD i []) DR.none.r) (DR.none :: acc) K)
      | none => False
theorem adrawR_ok {P : Program} {G : TypeId → Option Ty} {T : Tab} {dn : List (List Nat)} {all : List Oper} {K : St → List DR → Prop} : ∀ {l : List Oper} {i : Nat} {σ : St} {acc : List DR},
    adrawR P G T dn all l i σ acc (fun σ rs => K σ rs.reverse) → adraw P G T dn all l i σ acc.reverse K := by
  intro l
  induction l with
  | nil => intro i σ acc h; exact h
  | cons o l ih =>
    intro i σ acc h
    unfold adrawR at h
    unfold adraw
    cases hg : o.guard with
    | none =>
      simp only [hg] at h ⊢
      cases ha : aop P G T (sB σ (opSlots o) (dn.getD i [])) o with
      | none => simp only [ha] at h
      | some r =>
        simp only [ha] at h ⊢
        have := ih h.2
        rw [List.reverse_cons] at this
        exact ⟨h.1, this⟩
    | some jw =>
      obtain ⟨j, want⟩ := jw
      simp only [hg] at h ⊢
      cases hn : gnone σ all j with
      | true =>
        simp only [hn] at h ⊢
        have := ih h
        rw [List.reverse_cons] at this
        exact this
      | false =>
      simp only [hn] at h ⊢
      cases hv : gval σ all j with
      | none => simp only [hv] at h
      | some db =>
        obtain ⟨d, b⟩ := db
        simp only [hv] at h ⊢
        refine ⟨fun hb => ?_, fun hb => ?_⟩
        · have h1 := h.1 hb
          cases ha : aop P G T (sB (σ.setb d want) (opSlots o) (dn.getD i [])) o with
          | none => simp only [ha] at h1
          | some r =>
            simp only [ha] at h1 ⊢
            have := ih h1.2
            rw [List.reverse_cons] at this
            exact ⟨h1.1, this⟩
        · have := ih (h.2 hb)
          rw [List.reverse_cons] at this
          exact this
theorem gcase_dt {p : Prop} [Decidable p] {P Q : Prop} (h : p → P) (k : ¬ p → Q) : gcase (decide p) true P Q := ⟨fun e => h (of_decide_eq_true e), fun e => k (of_decide_eq_false e)⟩
theorem gcase_df {p : Prop} [Decidable p] {P Q : Prop} (h : ¬ p → P) (k : p → Q) : gcase (decide p) false P Q := ⟨fun e => h (of_decide_eq_false e), fun e => k (of_decide_eq_true e)⟩
theorem gcase_ndt {p : Prop} [Decidable p] {P Q : Prop} (h : ¬ p → P) (k : p → Q) : gcase (!decide p) true P Q := ⟨fun e => h (by simpa using e), fun e => k (by simpa using e)⟩
theorem gcase_ndf {p : Prop} [Decidable p] {P Q : Prop} (h : p → P) (k : ¬ p → Q) : gcase (!decide p) false P Q := ⟨fun e => h (by simpa using e), fun e => k (by simpa using e)⟩
theorem gcase_nt {b : Bool} {P Q : Prop} (h : b = false → P) (k : b = true → Q) : gcase (!b) true P Q := ⟨fun e => h (by simpa using e), fun e => k (by simpa using e)⟩
theorem gcase_nf {b : Bool} {P Q : Prop} (h : b = true → P) (k : b = false → Q) : gcase (!b) false P Q := ⟨fun e => h (by simpa using e), fun e => k (by simpa using e)⟩
def slotsOf : List Operand → List Nat
  | [] => []
  | .tmp t :: l => t :: slotsOf l
  | .const _ :: l => slotsOf l
  | .global _ :: l => slotsOf l
  | .func _ :: l => slotsOf l
theorem opSlots_eq (o : Oper) : opSlots o = slotsOf o.op.operands.toList := by
  unfold opSlots
  generalize o.op.operands.toList = l
  induction l with
  | nil => rfl
  | cons x l ih => cases x <;> simp [slotsOf, ih]
theorem chk_leaf {n k : Nat} {bf dc : List (List Nat)} {rs : List DR} (h : chkA n bf dc k rs = true) : chkA n bf dc k rs = true := h
attribute [go_sem ↓] sc_kill bot_kill AV.killL_nil AV.kill_nil killObs_nil
attribute [go_sem ↓ high] sB_get sB_ob
attribute [go_sem] Int.toNat_natCast adrawR finD opSlots_eq slotsOf List.getD_cons_zero List.getD_cons_succ List.getD_nil DR.none obs_nil Op.operands Call.operands List.toList_toArray List.cons_append List.append_toArray Option.toArray_some Option.toArray_none bne_iff_ne List.length_append List.range_zero Bool.or_true Bool.true_or List.append_assoc
theorem wrapI {n : Int} (h : -9223372036854775808 ≤ n ∧ n ≤ 9223372036854775807) : IntKind.i64.wrap n = n := IntWalk.i64_in _ h
theorem wk {k : Nat} (h : k < 9223372036854775807) : IntKind.i64.wrap ((k : Int) + 1) = ((k + 1 : Nat) : Int) := by
  rw [wrapI (by omega)]; omega
section
variable {α : Type} {p : α → Bool} {xs : List α} {k : Nat} {d : α}
theorem take_next (hk : k < xs.length) : xs.take (k + 1) = xs.take k ++ [xs.getD k d] := by
  rw [List.take_succ_eq_append_getElem hk]
  simp [List.getD, hk]
theorem all_next (hk : k < xs.length) (h : (xs.take k).all p = true) (hp : p (xs.getD k d) = true) : (xs.take (k + 1)).all p = true := by
  rw [take_next (d := d) hk, List.all_append, h, List.all_cons, hp]; rfl
theorem all_stop (hk : k < xs.length) (hp : p (xs.getD k d) = false) : xs.all p = false := by
  rw [← Bool.not_eq_true]
  intro h
  have := List.all_eq_true.1 h (xs[k]) (List.getElem_mem hk)
  have e : xs.getD k d = xs[k] := by simp [List.getD, hk]
  rw [e] at hp; rw [hp] at this; cases this
theorem all_done (h : (xs.take k).all p = true) (hk : ¬ k < xs.length) : xs.all p = true := by
  rw [List.take_of_length_le (by omega)] at h; exact h
end
/-- Within bounds. -/
def inR (x lo hi : Int) : Bool := decide (lo ≤ x) && decide (x ≤ hi)
theorem inR_t {x lo hi : Int} (h1 : lo ≤ x) (h2 : x ≤ hi) : inR x lo hi = true := by simp [inR, h1, h2]
theorem inR_f1 {x lo hi : Int} (h1 : ¬ lo ≤ x) : inR x lo hi = false := by simp [inR]; omega
theorem inR_f2 {x lo hi : Int} (h1 : ¬ x ≤ hi) : inR x lo hi = false := by simp [inR]; omega
theorem inR_iff {x lo hi : Int} : inR x lo hi = true ↔ lo ≤ x ∧ x ≤ hi := by simp [inR]
theorem inR_iff_f {x lo hi : Int} : inR x lo hi = false ↔ x < lo ∨ hi < x := by simp [inR]; omega
def smp (x : Int) : Bool := inR x (-2147483648) 2147483647
def smps (xs : List Int) : Bool := xs.all smp
def idxs (n : Int) (xs : List Int) : Bool := xs.all fun i => inR i 0 (n - 1)
end Go.Proofs.Ythglggjgjlmhlaa
