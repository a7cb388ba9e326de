/-
  The logic of trees, tenth part: contracts of functions that only make memory, and calls of them.
-/
import Derived.Test.YthglggjgjlmhlaaGi
namespace Go.Proofs.Ythglggjgjlmhlaa
open Go.RowKit
set_option linter.unusedSimpArgs false
set_option linter.unusedVariables false

/-- Parameters: a value, or a pointer to one. -/
inductive PK where
  | val (t : Ty)
  | ptr (t : Ty)
  | one (t : Ty)
@[reducible] def PK.den : PK → Type
  | .val t => t.den
  | .ptr t => t.den
  | .one t => t.den
@[reducible] def dens : List PK → Type
  | [] => Unit
  | p :: l => p.den × dens l
/-- Results: whether their slices are of the call's own. -/
structure RK where
  t : Ty
  own : Bool
@[reducible] def rdens : List RK → Type
  | [] => Unit
  | [r] => r.t.den
  | r :: l => r.t.den × rdens l
def Ty.av (S : List Nat) : (t : Ty) → t.den → AV
  | .int k, x => .c (.sc (.int k x))
  | .bool, x => .c (.sc (.bool x))
  | .str, x => .c (.sc (.string x))
  | .row e t, xs => .c (.rd S e t xs)
  | .prod a b, x => .agg (cellsOf S (.prod a b) x)
def PK.av : (p : PK) → p.den → AV
  | .val t, x => t.av [] x
  | .ptr t, x => .c (.pt [] t x 0)
  | .one t, x => .agg (cellsOf [] t x)
def avs : (ps : List PK) → dens ps → List AV
  | [], _ => []
  | p :: l, x => p.av x.1 :: avs l x.2
def Ty.rows : Ty → Nat
  | .row _ _ => 1
  | .prod a b => a.rows + b.rows
  | _ => 0
/-- A result's cells, its rows named f k, f (k + 1), .. (or read by way of S); and those rows. -/
def outC (f : Nat → Nat) (own : Bool) (S : List Nat) : Nat → (t : Ty) → t.den → List CV
  | _, .int k, x => [.sc (.int k x)]
  | _, .bool, x => [.sc (.bool x)]
  | _, .str, x => [.sc (.string x)]
  | k, .row e t, xs => [if own then .ow (f k) else .rd S e t xs]
  | k, .prod a b, x => outC f own S k a x.1 ++ outC f own S (k + a.rows) b x.2
def outO (f : Nat → Nat) (S : List Nat) : Nat → (t : Ty) → t.den → List (Nat × Ob)
  | _, .int _, _ => []
  | _, .bool, _ => []
  | _, .str, _ => []
  | k, .row e t, xs => [(f k, match t.flat with
    | true => .row e t xs []
    | false => .tree e t xs none)]
  | k, .prod a b, x => outO f S k a x.1 ++ outO f S (k + a.rows) b x.2
def outA (f : Nat → Nat) (own : Bool) (S : List Nat) (k : Nat) : (t : Ty) → t.den → AV
  | .int q, x => .c (.sc (.int q x))
  | .bool, x => .c (.sc (.bool x))
  | .str, x => .c (.sc (.string x))
  | .row e t, xs => .c (if own then .ow (f k) else .rd S e t xs)
  | .prod a b, x => .agg (outC f own S k (.prod a b) x)
def outL (f : Nat → Nat) (S : List Nat) : Nat → (rs : List RK) → rdens rs → List AV
  | _, [], _ => []
  | k, [r], x => [outA f r.own S k r.t x]
  | k, r :: q :: l, x => outA f r.own S k r.t x.1 :: outL f S (k + r.t.rows) (q :: l) x.2
def outAll (f : Nat → Nat) (S : List Nat) (rs : List RK) (x : rdens rs) : AV :=
  match outL f S 0 rs x with
  | [v] => v
  | l => .tup l
def outOs (f : Nat → Nat) (S : List Nat) : Nat → (rs : List RK) → rdens rs → List (Nat × Ob)
  | _, [], _ => []
  | k, [r], x => if r.own then outO f S k r.t x else []
  | k, r :: q :: l, x => (if r.own then outO f S k r.t x.1 else []) ++ outOs f S (k + r.t.rows) (q :: l) x.2
def rowsOf : List RK → Nat
  | [] => 0
  | r :: l => r.t.rows + rowsOf l

/-- A contract: parameters, results; a condition; what is computed. -/
structure Con where
  ps : List PK
  rs : List RK
  c : dens ps → Prop
  r : dens ps → rdens rs
/-- The names of results, seen from within. -/
def inN (k : Nat) : Nat := 10 + k
/-- Old memory stays. -/
structure Keeps (R : Rz) (w : World) (R' : Rz) (w' : World) : Prop where
  os : w'.os = w.os
  tape : w'.tape = w.tape
  output : w'.output = w.output
  size : w.heap.size ≤ w'.heap.size
  keep : ∀ b, b < w.heap.size → R.root b ≤ 5 → w'.heap[b]? = w.heap[b]? ∧ R'.root b = R.root b
def PureT (P : Program) (f : FuncId) (k : Con) : Prop :=
  ∀ x, k.c x → ∀ (R : Rz) (w : World) (vs : Array Value), VRt R w (avs k.ps x) vs.toList →
    Calls P f vs w fun e w' => ∃ v R', e = .returned v ∧ VR R' w' (outAll inN [] k.rs (k.r x)) v ∧ obsOk R' w' (outOs inN [] 0 k.rs (k.r x)) ∧ Keeps R w R' w'
/-- Contracts of functions that change what they are given: parameters (a value, a pointer to one, a pointer to object k, the slice of object k) and those objects (30, 31, .. from within). -/
inductive GF where
  | rd (t : Ty)
  | ow (k : Nat)
inductive GP where
  | val (t : Ty)
  | ptr (t : Ty)
  | one (t : Ty)
  | po (k : Nat)
  | ow (k : Nat)
  | ag (fs : List GF)
inductive GO where
  | box (l : List GF)
  | row (e : TypeId) (t : Ty)
  | tree (e : TypeId) (t : Ty)
@[reducible] def GF.den : GF → Type
  | .rd t => t.den
  | .ow _ => Unit
@[reducible] def fdens : List GF → Type
  | [] => Unit
  | p :: l => p.den × fdens l
@[reducible] def GP.den : GP → Type
  | .val t | .ptr t | .one t => t.den
  | .po _ | .ow _ => Unit
  | .ag fs => fdens fs
@[reducible] def gdens : List GP → Type
  | [] => Unit
  | p :: l => p.den × gdens l
@[reducible] def GO.den : GO → Type
  | .box l => fdens l
  | .row _ t | .tree _ t => List t.den
@[reducible] def odens : List GO → Type
  | [] => Unit
  | p :: l => p.den × odens l
def ioN (k : Nat) : Nat := 30 + k
def gfs : (fs : List GF) → fdens fs → List CV
  | [], _ => []
  | .rd t :: l, x => cellsOf [] t x.1 ++ gfs l x.2
  | .ow k :: l, x => .ow (ioN k) :: gfs l x.2
def GP.av : (p : GP) → p.den → AV
  | .val t, x => t.av [] x
  | .ptr t, x => .c (.pt [] t x 0)
  | .one t, x => .agg (cellsOf [] t x)
  | .po k, _ => .c (.po (ioN k) 0)
  | .ow k, _ => .c (.ow (ioN k))
  | .ag fs, x => .agg (gfs fs x)
def gavs : (ps : List GP) → gdens ps → List AV
  | [], _ => []
  | p :: l, x => p.av x.1 :: gavs l x.2
def GO.ob : (o : GO) → o.den → Ob
  | .box l, x => .box (gfs l x)
  | .row e t, x => .row e t x []
  | .tree e t, x => .tree e t x none
def gobs : Nat → (os : List GO) → odens os → List (Nat × Ob)
  | _, [], _ => []
  | i, o :: l, x => (ioN i, o.ob x.1) :: gobs (i + 1) l x.2
/-- Names that may come out of a call: new ones (10 .. 25), those of the n objects that it was given. -/
def nmOk (n m : Nat) : Bool := (decide (10 ≤ m) && decide (m < 26)) || (decide (30 ≤ m) && decide (m < 30 + n))
def CV.nmOk (n : Nat) (c : CV) : Bool := c.srcs.all (Go.Proofs.Ythglggjgjlmhlaa.nmOk n) && c.ids.all (Go.Proofs.Ythglggjgjlmhlaa.nmOk n)
mutual
def AV.nmOk (n : Nat) : AV → Bool
  | .c x => x.nmOk n
  | .agg l => l.all (CV.nmOk n)
  | .tup l => AV.nmOkL n l
def AV.nmOkL (n : Nat) : List AV → Bool
  | [] => true
  | x :: l => x.nmOk n && AV.nmOkL n l
end
def Ob.nmOk (n : Nat) : Ob → Bool
  | .box l => l.all (CV.nmOk n)
  | .row _ _ _ S => S.all (Go.Proofs.Ythglggjgjlmhlaa.nmOk n)
  | .tree _ _ _ _ => true
def obsNmOk (n : Nat) : List (Nat × Ob) → Bool
  | [] => true
  | p :: l => Go.Proofs.Ythglggjgjlmhlaa.nmOk n p.1 && p.2.nmOk n && obsNmOk n l
structure GCon where
  ps : List GP
  os : List GO
  c : gdens ps × odens os → Prop
  r : gdens ps × odens os → AV
  o : gdens ps × odens os → List (Nat × Ob)
  ok : ∀ x, (r x).nmOk os.length = true ∧ obsNmOk os.length (o x) = true ∧ os.length ≤ 16
def GenT (P : Program) (f : FuncId) (k : GCon) : Prop :=
  ∀ x, k.c x → ∀ (R : Rz) (w : World) (vs : Array Value), VRt R w (gavs k.ps x.1) vs.toList → obsOk R w (gobs 0 k.os x.2) →
    Calls P f vs w fun e w' => ∃ v R', e = .returned v ∧ VR R' w' (k.r x) v ∧ obsOk R' w' (k.o x) ∧ Keeps R w R' w' ∧ ∀ n, 30 ≤ n → n < 46 → R'.hd n = R.hd n ∧ R'.bk n = R.bk n
inductive CK where
  | p (k : Con)
  | g (k : GCon)
def CKOk (P : Program) (f : FuncId) : CK → Prop
  | .p k => PureT P f k
  | .g k => GenT P f k
abbrev Tab := FuncId → Option CK
/-- The function is there and has a body. -/
def FnOk (P : Program) (f : FuncId) : Prop := ∃ fn c, P.funcs[f]? = some fn ∧ fn.body = some c ∧ fn.name ≠ "runtime.NumGoroutine"
def TabOk (P : Program) (T : Tab) : Prop := ∀ f k, T f = some k → CKOk P f k ∧ FnOk P f

/-- Arguments read as data. -/
def decV (σ : St) : (t : Ty) → AV → Option (t.den × List Nat)
  | .prod a b, v => match v with
    | .agg l => rds σ (.prod a b) l
    | _ => none
  | .int k, v => match v with
    | .c x => rds σ (.int k) [x]
    | _ => none
  | .bool, v => match v with
    | .c x => rds σ .bool [x]
    | _ => none
  | .str, v => match v with
    | .c x => rds σ .str [x]
    | _ => none
  | .row e t, v => match v with
    | .c x => rds σ (.row e t) [x]
    | _ => none
def castT {t' t : Ty} (h : t' = t) (x : t'.den) : t.den := h ▸ x
theorem castT_eq {t : Ty} (h : t = t) (x : t.den) : castT h x = x := rfl
def decP (σ : St) (t : Ty) : AV → Option (Prop × t.den × List Nat)
  | .c (.pt S t' x 0) => if h : t' = t then some (True, castT h x, S) else none
  | .c (.po n o) => match σ.look n with
    | some (.box l) => if o + t.w ≤ l.length then match rds σ t ((l.drop o).take t.w) with
      | some (x, S) => some (True, x, n :: S)
      | none => none else none
    | _ => none
  | .c (.pe n i wd 0) => match σ.look n with
    | some (.row _ t' xs S) => if h : t' = t then if wd = t'.w then some (i < xs.length, castT h (xs.getD i t'.dflt), n :: S) else none else none
    | some (.tree _ t' xs hh) => if h : t' = t then if wd = t'.w then some (i < xs.length ∧ okH hh i, castT h (xs.getD i t'.dflt), [n]) else none else none
    | _ => none
  | _ => none
def decs (σ : St) : (ps : List PK) → List AV → Option (Prop × dens ps × List Nat)
  | [], [] => some (True, (), [])
  | .val t :: ps, v :: vs => match decV σ t v, decs σ ps vs with
    | some (x, S), some (c, y, S') => some (c, (x, y), uni S S')
    | _, _ => none
  | .ptr t :: ps, v :: vs => match decP σ t v, decs σ ps vs with
    | some (c, x, S), some (c', y, S') => some (c ∧ c', (x, y), uni S S')
    | _, _ => none
  | .one t :: ps, v :: vs => match v, decs σ ps vs with
    | .agg l, some (c, y, S') => match rds σ t l with
      | some (x, S) => some (c, (x, y), uni S S')
      | none => none
    | _, _ => none
  | _, _ => none

/-- What a callee sees: what the arguments depend on; the rest is hidden. -/
def Rz.hide (R : Rz) (S : List Nat) : Rz := { R with root := fun b => if R.root b = 0 ∨ R.root b ∈ S then 0 else 5 }
section
variable {P : Program} {R0 R : Rz} {w0 w : World} {σ : St} {a : Act} {o : Oper} {K : Act → World → Prop} {Q : Exit → Act → World → Prop}
theorem okS_hide {S S' : List Nat} (h : ∀ n ∈ S', n ∈ S) : ∀ b, okS R S' b → okS (R.hide S) [] b := by
  intro b hb
  left
  show (if R.root b = 0 ∨ R.root b ∈ S then 0 else 5) = 0
  rw [if_pos]
  exact hb.imp id (h _)
theorem Rd.av {S : List Nat} {t : Ty} {x : t.den} {us : List Value} {v : Value} (h : Rd (okS R S) w t us x) (hv : (t.flat = t.flat) ∧ ((∃ a b, t = .prod a b) → v = .agg us.toArray) ∧ ((¬ ∃ a b, t = .prod a b) → us = [v])) : VR R w (t.av S x) v := by
  cases t with
  | int k => have := hv.2.2 (by simp); subst this; simp only [Rd] at h; simp only [Ty.av, VR, VRc]; simpa using h
  | bool => have := hv.2.2 (by simp); subst this; simp only [Rd] at h; simp only [Ty.av, VR, VRc]; simpa using h
  | str => have := hv.2.2 (by simp); subst this; simp only [Rd] at h; simp only [Ty.av, VR, VRc]; simpa using h
  | row e t => have := hv.2.2 (by simp); subst this; simpa only [Ty.av, VR, VRc] using h
  | prod p q =>
    have := hv.2.1 ⟨p, q, rfl⟩
    subst this
    simp only [Ty.av, VR]
    exact ⟨_, rfl, by simpa using h.cells⟩
theorem decV_ok (hs : Sim R0 w0 R σ a w) {t : Ty} {v : AV} {u : Value} {x : t.den} {S S1 : List Nat} {R1 : Rz} (hR : ∀ S', (∀ n ∈ S', n ∈ S1) → ∀ b, okS R S' b → okS R1 [] b) (hv : VR R w v u) (h : decV σ t v = some (x, S)) (hS : ∀ n ∈ S, n ∈ S1) : VR R1 w (t.av [] x) u := by
  have conv : ∀ us, Rd (okS R S) w t us x → Rd (okS R1 []) w t us x := fun us h => h.mono (hR _ hS)
  cases t with
  | prod p q =>
    simp only [decV] at h
    split at h
    · rename_i l
      simp only [VR] at hv
      obtain ⟨us, rfl, h1⟩ := hv
      exact Rd.av (conv _ (rds_ok hs _ h1 h)) ⟨rfl, fun _ => by simp, fun hn => absurd ⟨p, q, rfl⟩ hn⟩
    · cases h
  | int k =>
    simp only [decV] at h
    split at h
    · simp only [VR] at hv
      exact Rd.av (conv _ (rds_ok hs _ (show VRs R w [_] [u] from ⟨u, [], rfl, hv, rfl⟩) h)) ⟨rfl, fun hn => by simp at hn, fun _ => rfl⟩
    · cases h
  | bool =>
    simp only [decV] at h
    split at h
    · simp only [VR] at hv
      exact Rd.av (conv _ (rds_ok hs _ (show VRs R w [_] [u] from ⟨u, [], rfl, hv, rfl⟩) h)) ⟨rfl, fun hn => by simp at hn, fun _ => rfl⟩
    · cases h
  | str =>
    simp only [decV] at h
    split at h
    · simp only [VR] at hv
      exact Rd.av (conv _ (rds_ok hs _ (show VRs R w [_] [u] from ⟨u, [], rfl, hv, rfl⟩) h)) ⟨rfl, fun hn => by simp at hn, fun _ => rfl⟩
    · cases h
  | row e t =>
    simp only [decV] at h
    split at h
    · simp only [VR] at hv
      exact Rd.av (conv _ (rds_ok hs _ (show VRs R w [_] [u] from ⟨u, [], rfl, hv, rfl⟩) h)) ⟨rfl, fun hn => by simp at hn, fun _ => rfl⟩
    · cases h
theorem decP_ok (hs : Sim R0 w0 R σ a w) {t : Ty} {v : AV} {u : Value} {c : Prop} {x : t.den} {S S1 : List Nat} {R1 : Rz} (hR : ∀ S', (∀ n ∈ S', n ∈ S1) → ∀ b, okS R S' b → okS R1 [] b) (hv : VR R w v u) (h : decP σ t v = some (c, x, S)) (hc : c) (hS : ∀ n ∈ S, n ∈ S1) :
    VR R1 w (.c (.pt [] t x 0)) u := by
  simp only [VR, VRc]
  unfold decP at h
  split at h
  · rename_i S' t' y
    split at h
    · rename_i ht
      subst ht
      cases h
      simp only [VR, VRc] at hv
      obtain ⟨b, q, us, rfl, hb, hl, hcell, hr⟩ := hv
      exact ⟨b, q, us, rfl, hR _ hS b hb, hl, hcell, hr.mono (hR _ hS)⟩
    · cases h
  · rename_i n k
    split at h
    · rename_i l he
      split at h
      case isFalse => cases h
      rename_i hle
      split at h
      · rename_i y S' e1
        cases h
        simp only [VR, VRc] at hv
        obtain ⟨us, T, h1, h2, h3⟩ := hs.look he
        have hl3 := h3.length
        simp only [Array.length_toList] at hl3
        have hr := rds_ok hs t ((h3.drop k).take t.w) e1
        refine ⟨R.bk n, k, _, hv, hR _ hS _ (.inr (by rw [h2]; simp)), hr.len, fun j hj => ?_, hr.mono fun b hb => hR _ (fun m hm => hS m (List.mem_cons_of_mem _ hm)) b hb⟩
        rw [drop_take_get hj]
        simp [World.cell?, h1]
      · cases h
    · cases h
  · rename_i n i wd
    split at h
    · rename_i e t' xs S' he
      split at h
      case isFalse => cases h
      rename_i ht
      subst ht
      split at h
      case isFalse => cases h
      rename_i hwd
      subst hwd
      cases h
      have hc : i < xs.length := hc
      simp only [VR, VRc] at hv
      rcases hs.look he with ⟨_, h2⟩ | ⟨cap, cur, h1, h2, h3, h4, h5, h6, h7⟩
      · subst h2; simp at hc
      have h8 := h7 i hc
      have e1 : xs.getD i t'.dflt = xs[i] := by simp [List.getD, hc]
      rw [castT_eq, e1]
      refine ⟨R.bk n, i * t'.w, _, hv, hR _ hS _ (.inr (by rw [h2]; simp)), h8.len, fun j hj => ?_, h8.mono fun b hb => hR _ (fun m hm => hS m (List.mem_cons_of_mem _ hm)) b hb⟩
      rw [drop_take_get hj]
      simp [World.cell?, h3]
    · rename_i e t' xs hh he
      split at h
      case isFalse => cases h
      rename_i ht
      subst ht
      split at h
      case isFalse => cases h
      rename_i hwd
      subst hwd
      cases h
      obtain ⟨hc, hk⟩ : i < xs.length ∧ okH hh i := hc
      simp only [VR, VRc] at hv
      rcases hs.look he with ⟨_, h2⟩ | ⟨cap, cur, h1, h2, h3, h4, h5, h6, h7, h8⟩
      · subst h2; simp at hc
      have h9 := (h7 i hc (okH_iff.1 hk)).rd
      have e1 : xs.getD i t'.dflt = xs[i] := by simp [List.getD, hc]
      rw [castT_eq, e1]
      refine ⟨R.bk n, i * t'.w, _, hv, hR _ hS _ (.inr (by rw [h2]; simp)), h9.len, fun j hj => ?_, h9.mono fun b hb => hR _ (fun m hm => hS m hm) b hb⟩
      rw [drop_take_get hj]
      simp [World.cell?, h3]
    · cases h
  · cases h
theorem decs_ok (hs : Sim R0 w0 R σ a w) {S1 : List Nat} {R1 : Rz} (hR : ∀ S', (∀ n ∈ S', n ∈ S1) → ∀ b, okS R S' b → okS R1 [] b) : ∀ {ps : List PK} {l : List AV} {us : List Value} {c : Prop} {x : dens ps} {S : List Nat}, VRt R w l us → decs σ ps l = some (c, x, S) → c → (∀ n ∈ S, n ∈ S1) → VRt R1 w (avs ps x) us := by
  intro ps
  induction ps with
  | nil =>
    intro l us c x S h1 h2 _ _
    cases l with
    | nil => simp only [VRt] at h1; subst h1; simp [avs, VRt]
    | cons v l => simp [decs] at h2
  | cons p ps ih =>
    intro l us c x S h1 h2 hc hS
    cases l with
    | nil => cases p <;> simp [decs] at h2
    | cons v l =>
      simp only [VRt] at h1
      obtain ⟨u, us', rfl, h3, h4⟩ := h1
      cases p with
      | val t =>
        simp only [decs] at h2
        split at h2
        · rename_i y S2 c' z S3 e1 e2
          cases h2
          simp only [avs, VRt, PK.av]
          exact ⟨u, us', rfl, decV_ok hs hR h3 e1 (fun n hn => hS n (uni_l hn)), ih h4 e2 hc (fun n hn => hS n (uni_r hn))⟩
        · cases h2
      | ptr t =>
        simp only [decs] at h2
        split at h2
        · rename_i c1 y S2 c' z S3 e1 e2
          cases h2
          simp only [avs, VRt, PK.av]
          exact ⟨u, us', rfl, decP_ok hs hR h3 e1 hc.1 (fun n hn => hS n (uni_l hn)), ih h4 e2 hc.2 (fun n hn => hS n (uni_r hn))⟩
        · cases h2
      | one t =>
        simp only [decs] at h2
        split at h2
        · rename_i q c' z S3 e2
          split at h2
          case h_2 => cases h2
          rename_i y S2 e1
          cases h2
          simp only [avs, VRt, PK.av]
          refine ⟨u, us', rfl, ?_, ih h4 e2 hc (fun n hn => hS n (uni_r hn))⟩
          simp only [VR] at h3 ⊢
          obtain ⟨vs, rfl, h5⟩ := h3
          exact ⟨vs, rfl, ((rds_ok hs t h5 e1).mono (hR _ fun n hn => hS n (uni_l hn))).cells⟩
        · cases h2
end
end Go.Proofs.Ythglggjgjlmhlaa
