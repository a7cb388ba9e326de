/-
  The logic of trees, third part: what the operations do to an abstract state.
-/
import Derived.Test.YthglggjgjlmhlaaGb
import Derived.Deep.MidRow
import Derived.WalkSpells
import Derived.WalkLawsBesides
import Derived.Laws.StructEq
namespace Go.Proofs.Ythglggjgjlmhlaa
open Go.RowKit
set_option linter.unusedSimpArgs false
set_option linter.unusedVariables false

def cvOf (S : List Nat) : (t : Ty) → t.den → CV
  | .int k, x => .sc (.int k x)
  | .bool, x => .sc (.bool x)
  | .str, x => .sc (.string x)
  | .row e t, xs => .rd S e t xs
  | .prod _ _, _ => .bot
def cellsOf (S : List Nat) : (t : Ty) → t.den → List CV
  | .int k, x => [.sc (.int k x)]
  | .bool, x => [.sc (.bool x)]
  | .str, x => [.sc (.string x)]
  | .row e t, xs => [.rd S e t xs]
  | .prod a b, x => cellsOf S a x.1 ++ cellsOf S b x.2
theorem cellsOf_length (S : List Nat) (t : Ty) (x : t.den) : (cellsOf S t x).length = t.w := by
  induction t with
  | prod a b ha hb => simp [cellsOf, ha, hb, Ty.w]
  | _ => simp [cellsOf, Ty.w]
theorem VRs.append {R : Rz} {w : World} {l1 l2 : List CV} {u1 u2 : List Value} (h1 : VRs R w l1 u1) (h2 : VRs R w l2 u2) : VRs R w (l1 ++ l2) (u1 ++ u2) := by
  induction l1 generalizing u1 with
  | nil => simp only [VRs] at h1; subst h1; exact h2
  | cons c l ih =>
    obtain ⟨u, us', rfl, h3, h4⟩ := h1
    exact ⟨u, us' ++ u2, rfl, h3, ih h4⟩
theorem VRs.length {R : Rz} {w : World} {l : List CV} {us : List Value} (h : VRs R w l us) : us.length = l.length := by
  induction l generalizing us with
  | nil => simp only [VRs] at h; simp [h]
  | cons c l ih =>
    obtain ⟨u, us', rfl, _, h4⟩ := h
    simp [ih h4]
theorem VRs.get {R : Rz} {w : World} {l : List CV} {us : List Value} (h : VRs R w l us) (i : Nat) {c : CV} (hc : l[i]? = some c) : ∃ u, us[i]? = some u ∧ VRc R w c u := by
  induction l generalizing us i with
  | nil => simp at hc
  | cons d l ih =>
    obtain ⟨u, us', rfl, h1, h2⟩ := h
    cases i with
    | zero => simp at hc; subst hc; exact ⟨u, rfl, h1⟩
    | succ i => simp at hc; simpa using ih h2 i hc
theorem VRs.set {R : Rz} {w : World} {l : List CV} {us : List Value} (h : VRs R w l us) (i : Nat) {c : CV} {u : Value} (hc : VRc R w c u) : VRs R w (l.set i c) (us.set i u) := by
  induction l generalizing us i with
  | nil => simp only [VRs] at h; subst h; simp [VRs]
  | cons y l ih =>
    obtain ⟨u', us', rfl, h1, h2⟩ := h
    cases i with
    | zero => exact ⟨u, us', rfl, hc, h2⟩
    | succ i => exact ⟨u', _, rfl, h1, ih h2 i⟩
theorem VRs.drop {R : Rz} {w : World} {l : List CV} {us : List Value} (h : VRs R w l us) (i : Nat) : VRs R w (l.drop i) (us.drop i) := by
  induction l generalizing us i with
  | nil => simp only [VRs] at h; subst h; simp [VRs]
  | cons y l ih =>
    obtain ⟨u', us', rfl, h1, h2⟩ := h
    cases i with
    | zero => exact ⟨u', us', rfl, h1, h2⟩
    | succ i => exact ih h2 i
theorem VRs.take {R : Rz} {w : World} {l : List CV} {us : List Value} (h : VRs R w l us) (i : Nat) : VRs R w (l.take i) (us.take i) := by
  induction l generalizing us i with
  | nil => simp only [VRs] at h; subst h; simp [VRs]
  | cons y l ih =>
    obtain ⟨u', us', rfl, h1, h2⟩ := h
    cases i with
    | zero => simp [VRs]
    | succ i => exact ⟨u', _, rfl, h1, ih h2 i⟩
theorem Rd.cells {R : Rz} {w : World} {S : List Nat} {t : Ty} {us : List Value} {x : t.den} (h : Rd (okS R S) w t us x) : VRs R w (cellsOf S t x) us := by
  induction t generalizing us with
  | int k => simp only [Rd] at h; subst h; exact ⟨_, _, rfl, rfl, rfl⟩
  | bool => simp only [Rd] at h; subst h; exact ⟨_, _, rfl, rfl, rfl⟩
  | str => simp only [Rd] at h; subst h; exact ⟨_, _, rfl, rfl, rfl⟩
  | row e t ih =>
    have h' := h
    obtain ⟨a, cap, rfl, _⟩ := h
    exact ⟨_, _, rfl, h', rfl⟩
  | prod a b ha hb =>
    obtain ⟨u1, u2, rfl, h1, h2⟩ := h
    exact (ha h1).append (hb h2)

/-- A result and what comes with it: a condition; the names that are written, and given to new places; new objects. -/
structure Res where
  c : Prop
  r : AV
  N : List Nat
  M : List Nat
  news : List (Nat × Ob)
def St.look (σ : St) (n : Nat) : Option Ob := lookOb n σ.ob
def St.ev (σ : St) : Operand → AV
  | .tmp t => σ.get t
  | .const v => .c (.sc v)
  | .global g => .c (.sc (.pointer (some ⟨g, 0, none⟩)))
  | .func f => .c (.sc (.func (.func f) #[] #[]))
theorem Sim.ev {R0 R : Rz} {w0 w : World} {σ : St} {a : Act} (h : Sim R0 w0 R σ a w) (x : Operand) : VR R w (σ.ev x) (a.eval x) := by
  cases x with
  | tmp t => exact h.get t
  | const v => simp [St.ev, VR, VRc, Act.eval]
  | global g => simp [St.ev, VR, VRc, Act.eval]
  | func f => simp [St.ev, VR, VRc, Act.eval]
def szOf (P : Program) (t : TypeId) : Option Nat := (P.info? t).map (·.size)
def pureRes (r : AV) : Option Res := some ⟨True, r, [], [], []⟩

/-- What an operation leaves. -/
structure Done (R : Rz) (w : World) (N M : List Nat) (r : AV) (news : List (Nat × Ob)) (R' : Rz) (v : Value) (w' : World) : Prop where
  fr : FR N M R w R' w'
  n5 : ∀ n ∈ N, 5 < n
  vr : VR R' w' r v
  ob : obsOk R' w' news
section
variable {P : Program} {R0 R : Rz} {w0 w : World} {σ : St} {a : Act} {o : Oper} {K : Act → World → Prop} {Q : Exit → Act → World → Prop}
theorem Sim.done {R' : Rz} {w' : World} {N M : List Nat} {r : AV} {v : Value} {news : List (Nat × Ob)} {dst : Option Tmp} (hs : Sim R0 w0 R σ a w) (h : Done R w N M r news R' v w') : Sim R0 w0 R' (σ.fin dst N M r news) (a.put dst v) w' :=
  hs.fin h.fr h.n5 h.vr h.ob
/-- The operation comes back with a value. -/
theorem wp_of_run {v : Value} {w' : World} {R' : Rz} {r : Res} (hs : Sim R0 w0 R σ a w) (hrun : (execOp a.eval o).run P w = .ok (.value v) w')
    (hf : FR r.N r.M R w R' w') (h0 : ∀ n ∈ r.N, 5 < n) (hr : VR R' w' r.r v) (hn : obsOk R' w' r.news)
    (hK : ∀ R' v w', Done R w r.N r.M r.r r.news R' v w' → K (a.put o.dst v) w') : o.wp P a w K Q := by
  unfold Oper.wp
  rw [hrun]
  exact hK _ _ _ ⟨hf, h0, hr, hn⟩
theorem wp_of_pure {v : Value} {r : AV} (hs : Sim R0 w0 R σ a w) (hrun : (execOp a.eval o).run P w = .ok (.value v) w) (hr : VR R w r v)
    (hK : ∀ R' v w', Done R w [] [] r [] R' v w' → K (a.put o.dst v) w') : o.wp P a w K Q :=
  wp_of_run (r := ⟨True, r, [], [], []⟩) hs hrun (FR.refl _ _ _ _) (by simp) hr (by intro p hp; cases hp) hK

/-- Two scalars. -/
def abin (op : BinOp) : Value → Value → Option (Prop × Value)
  | .int k x, .int k' y => match op with
    | .add => if k = k' then some (True, .int k (k.wrap (x + y))) else none
    | .sub => if k = k' then some (True, .int k (k.wrap (x - y))) else none
    | .mul => if k = k' then some (True, .int k (k.wrap (x * y))) else none
    | .quo => if k = k' then some (y ≠ 0, .int k (k.wrap (x.tdiv y))) else none
    | .rem => if k = k' then some (y ≠ 0, .int k (x.tmod y)) else none
    | .and => if k = k' then some (True, .int k (k.wrap (BitVec.ofInt k.bits x &&& BitVec.ofInt k.bits y).toNat)) else none
    | .or => if k = k' then some (True, .int k (k.wrap (BitVec.ofInt k.bits x ||| BitVec.ofInt k.bits y).toNat)) else none
    | .xor => if k = k' then some (True, .int k (k.wrap (BitVec.ofInt k.bits x ^^^ BitVec.ofInt k.bits y).toNat)) else none
    | .andNot => if k = k' then some (True, .int k (k.wrap (BitVec.ofInt k.bits x &&& ~~~(BitVec.ofInt k.bits y)).toNat)) else none
    | .shl => some (0 ≤ y, .int k (k.wrap (x * 2 ^ (min y.toNat k.bits))))
    | .shr => some (0 ≤ y, .int k (x.fdiv (2 ^ (min y.toNat k.bits))))
    | .eql => if k = k' then some (True, .bool (decide (x = y))) else none
    | .neq => if k = k' then some (True, .bool (!decide (x = y))) else none
    | .lss => if k = k' then some (True, .bool (x < y)) else none
    | .leq => if k = k' then some (True, .bool (x ≤ y)) else none
    | .gtr => if k = k' then some (True, .bool (x > y)) else none
    | .geq => if k = k' then some (True, .bool (x ≥ y)) else none
  | .string x, .string y => match op with
    | .add => some (((x.size + y.size : Nat) : Int) ≤ IntKind.i64.max, .string (x ++ y))
    | .eql => some (True, .bool (x.toList == y.toList))
    | .neq => some (True, .bool (!(x.toList == y.toList)))
    | _ => none
  | _, _ => none
theorem abin_run {op : BinOp} {x y v : Value} {c : Prop} (h : abin op x y = some (c, v)) (hc : c) (t : TypeId) (X Y : Operand) (w : World) :
    (do eqGuard op t X Y x y; binOp op t x y : Sem Value).run P w = .ok v w := by
  have key : (eqGuard op t X Y x y).run P w = .ok () w ∧ (binOp op t x y).run P w = .ok v w := by
    cases x <;> cases y <;> simp only [abin] at h <;> try (cases h)
    · rename_i k x k' y
      cases op <;> simp only at h <;> (try split at h) <;> cases h <;> (try subst_vars) <;> refine ⟨by simp [eqGuard, pure, Sem.run], ?_⟩ <;>
        (try simp_all [binOp, Op.intArith, Op.intDiv, Op.intBits, Op.intCmp, Op.shift, pure, Sem.run]) <;> first | omega | rfl | (simp [bne]; done)
    · rename_i x y
      cases op <;> simp only at h <;> cases h <;> refine ⟨by simp [eqGuard, pure, Sem.run], ?_⟩ <;>
        simp_all [binOp, Op.stringOp, pure, Sem.run] <;> omega
  rw [Sem.run_bind, key.1]
  exact key.2
/-- Structs of numbers alone: how many. -/
def okFields (P : Program) : Nat → List Field → Bool
  | _, [] => true
  | i, f :: fs => f.name != "_" && f.offset == i && (match P.underlying f.type with | some (.int _) => true | _ => false) && okFields P (i + 1) fs
def eqWidth (P : Program) (t : TypeId) : Option Nat :=
  match P.underlying t with
  | some (.struct fs) => if !P.stoodInHeld t && !P.eqGuardType P.depth t && okFields P 0 fs.toList then some fs.toList.length else none
  | _ => none
def eqCv : List CV → List CV → Option Bool
  | [], [] => some true
  | .sc (.int k x) :: l, .sc (.int k' y) :: l' => if k = k' then match eqCv l l' with
    | some b => some (x == y && b)
    | none => none else none
  | _, _ => none
theorem eqFields_ok {us vs : Array Value} {d : Nat} : ∀ (fs : List Field) (i : Nat) (l1 l2 : List CV) (b : Bool), okFields P i fs = true → VRs R w l1 (us.toList.drop i) → VRs R w l2 (vs.toList.drop i) →
    l1.length = fs.length → eqCv l1 l2 = some b → (Op.eqFields (d + 1) us vs fs).run P w = .ok b w := by
  intro fs
  induction fs with
  | nil =>
    intro i l1 l2 b _ _ _ hl h
    have : l1 = [] := List.eq_nil_of_length_eq_zero hl
    subst this
    cases l2 with
    | nil => simp only [eqCv, Option.some.injEq] at h; subst h; simp [Op.eqFields, pure, Sem.run]
    | cons c l => simp [eqCv] at h
  | cons f fs ih =>
    intro i l1 l2 b hf h1 h2 hl h
    simp only [okFields, Bool.and_eq_true, bne_iff_ne, ne_eq, beq_iff_eq] at hf
    obtain ⟨⟨⟨hn, ho⟩, ht⟩, hf⟩ := hf
    split at ht
    case h_2 => cases ht
    rename_i k0 hu
    cases l1 with
    | nil => simp at hl
    | cons c1 l1 =>
      cases l2 with
      | nil => cases c1 <;> simp [eqCv] at h <;> (rename_i v; cases v <;> simp [eqCv] at h)
      | cons c2 l2 =>
        unfold eqCv at h
        split at h <;> try cases h
        · rename_i heq _; cases heq
        rename_i k x l k' y l' e1 e2
        cases e1; cases e2
        split at h
        case isFalse => cases h
        rename_i hk
        subst hk
        split at h
        case h_2 => cases h
        rename_i b' hb
        cases h
        obtain ⟨u, us', q1, q2, q3⟩ := h1
        obtain ⟨v, vs', r1, r2, r3⟩ := h2
        simp only [VRc] at q2 r2
        subst q2 r2
        have gu : us[i]? = some (.int k x) := by
          have := congrArg (·[0]?) q1
          simpa using this
        have gv : vs[i]? = some (.int k y) := by
          have := congrArg (·[0]?) r1
          simpa using this
        have du : us.toList.drop (i + 1) = us' := by rw [← List.drop_drop, q1]; rfl
        have dv : vs.toList.drop (i + 1) = vs' := by rw [← List.drop_drop, r1]; rfl
        have hag : (isAgg f.type).run P w = .ok false w := by
          unfold isAgg
          rw [Sem.run_bind, run_underlying hu w]
          simp
        have := ih (i + 1) l1 l2 b' hf (by rw [du]; exact q3) (by rw [dv]; exact r3) (by simpa using hl) hb
        simp only [Op.eqFields, hn, not_false_eq_true, ne_eq, if_true, Sem.run_bind, part, hag, ho, gu, gv, run_equalIn_int w d f.type k k0 x y hu, Result.andThen_ok, Sem.run_ite]
        cases hxy : (x == y)
        · simp [hag, gu, gv, Sem.run_bind, run_equalIn_int w d f.type k k0 x y hu, hxy, pure, Sem.run, Sem.run_pure]
        · simp [hag, gu, gv, Sem.run_bind, run_equalIn_int w d f.type k k0 x y hu, hxy, this, pure]
def aBin (P : Program) (σ : St) (op : BinOp) (t : TypeId) (x y : Operand) : Option Res :=
  match σ.ev x, σ.ev y with
  | .c (.sc u), .c (.sc v) => match abin op u v with
    | some (c, r) => some ⟨c, .c (.sc r), [], [], []⟩
    | none => none
  | .agg l1, .agg l2 => match eqWidth P t with
    | some n => if l1.length = n then match eqCv l1 l2 with
      | some b => match op with
        | .eql => some ⟨True, .c (.sc (.bool b)), [], [], []⟩
        | .neq => some ⟨True, .c (.sc (.bool (!b))), [], [], []⟩
        | _ => none
      | none => none else none
    | none => none
  | _, _ => none
theorem aBin_ok {op : BinOp} {t t' : TypeId} {x y : Operand} {r : Res} (ho : o.op = .binOp op t x y t') (h : aBin P σ op t x y = some r) (hc : r.c) (hs : Sim R0 w0 R σ a w)
    (hK : ∀ R' v w', Done R w r.N r.M r.r r.news R' v w' → K (a.put o.dst v) w') : o.wp P a w K Q := by
  have hx := hs.ev x
  have hy := hs.ev y
  unfold aBin at h
  split at h
  · rename_i u v e1 e2
    split at h
    · rename_i c q e3
      cases h
      rw [e1] at hx; rw [e2] at hy
      simp only [VR, VRc] at hx hy
      refine wp_of_pure (r := .c (.sc q)) hs ?_ rfl hK
      unfold execOp
      simp only [ho, hx, hy, Sem.run_bind]
      have := abin_run (P := P) e3 hc t x y w
      rw [Sem.run_bind] at this
      simp [this, pure, Sem.run, Sem.run_pure]
    · cases h
  · rename_i l1 l2 e1 e2
    split at h
    case h_2 => cases h
    rename_i n e3
    split at h
    case isFalse => cases h
    rename_i hn
    split at h
    case h_2 => cases h
    rename_i b e4
    rw [e1] at hx; rw [e2] at hy
    simp only [VR] at hx hy
    obtain ⟨us, hx, h1⟩ := hx
    obtain ⟨vs, hy, h2⟩ := hy
    unfold eqWidth at e3
    split at e3
    case h_2 => cases e3
    rename_i fs e5
    split at e3
    case isFalse => cases e3
    rename_i hf
    simp only [Bool.and_eq_true, Bool.not_eq_true'] at hf
    obtain ⟨⟨f1, f2⟩, f3⟩ := hf
    simp only [Option.some.injEq] at e3
    have ef : P.fieldsOf t = fs := by simp [Program.fieldsOf, e5]
    have run : (Op.equalIn 10000 t (.agg us) (.agg vs)).run P w = .ok b w := by
      rw [run_equalIn_struct w 9999 t us vs (by rw [ef]; exact e5) f1, ef]
      exact eqFields_ok fs.toList 0 l1 l2 b f3 (by simpa using h1) (by simpa using h2) (by omega) e4
    have eg := run_eqGuard_agg w op t x y us vs f2
    split at h
    · cases h
      refine wp_of_pure (r := .c (.sc (.bool b))) (v := .bool b) hs ?_ (by simp only [VR, VRc]) hK
      unfold execOp
      simp only [ho, hx, hy, Sem.run_bind, eg, Result.andThen_ok, run_eql_struct, run, Sem.run_pure]
    · cases h
      refine wp_of_pure (r := .c (.sc (.bool (!b)))) (v := .bool (!b)) hs ?_ (by simp only [VR, VRc]) hK
      unfold execOp
      simp only [ho, hx, hy, Sem.run_bind, eg, Result.andThen_ok, run_neq_struct, run, Sem.run_pure]
    · cases h
  · cases h
end
end Go.Proofs.Ythglggjgjlmhlaa
