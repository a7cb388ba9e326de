/-
  The logic of trees: calls of functions that change what they are given; calls of function values.
-/
import Derived.Test.YthglggjgjlmhlaaGk
namespace Go.Proofs.Ythglggjgjlmhlaa
open Go.RowKit
set_option linter.unusedSimpArgs false
set_option linter.unusedVariables false
set_option linter.unusedSectionVars false

def bindL : List (Nat × Nat) → Nat → Option Nat
  | [], _ => none
  | (k, n) :: l, m => if k = m then some n else bindL l m
def fdecs (σ : St) : (fs : List GF) → List CV → Option (fdens fs × List Nat × List (Nat × Nat))
  | [], [] => some ((), [], [])
  | .rd t :: fs, l => match rds σ t (l.take t.w), fdecs σ fs (l.drop t.w) with
    | some (x, S), some (y, S', B) => some ((x, y), uni S S', B)
    | _, _ => none
  | .ow k :: fs, c :: l => match c, fdecs σ fs l with
    | .ow n, some (y, S', B) => some (((), y), S', (k, n) :: B)
    | _, _ => none
  | _, _ => none
def gdecs (σ : St) : (ps : List GP) → List AV → Option (Prop × gdens ps × List Nat × List (Nat × Nat))
  | [], [] => some (True, (), [], [])
  | .val t :: ps, v :: vs => match decV σ t v, gdecs σ ps vs with
    | some (x, S), some (c, y, S', B) => some (c, (x, y), uni S S', B)
    | _, _ => none
  | .ptr t :: ps, v :: vs => match decP σ t v, gdecs σ ps vs with
    | some (c, x, S), some (c', y, S', B) => some (c ∧ c', (x, y), uni S S', B)
    | _, _ => none
  | .one t :: ps, v :: vs => match v, gdecs σ ps vs with
    | .agg l, some (c, y, S', B) => match rds σ t l with
      | some (x, S) => some (c, (x, y), uni S S', B)
      | none => none
    | _, _ => none
  | .po k :: ps, v :: vs => match v, gdecs σ ps vs with
    | .c (.po n 0), some (c, y, S', B) => some (c, ((), y), S', (k, n) :: B)
    | _, _ => none
  | .ow k :: ps, v :: vs => match v, gdecs σ ps vs with
    | .c (.ow n), some (c, y, S', B) => some (c, ((), y), S', (k, n) :: B)
    | _, _ => none
  | .ag fs :: ps, v :: vs => match v, gdecs σ ps vs with
    | .agg l, some (c, y, S', B) => match fdecs σ fs l with
      | some (x, S, B') => some (c, (x, y), uni S S', B' ++ B)
      | none => none
    | _, _ => none
  | _, _ => none
def odec (σ : St) : (o : GO) → Nat → Option (o.den × List Nat × List (Nat × Nat))
  | .box fs, n => match σ.look n with
    | some (.box l) => fdecs σ fs l
    | _ => none
  | .row e t, n => match σ.look n with
    | some (.row e' t' xs _) => if e' = e ∧ t.flat = true then if h : t' = t then some (castD h xs, [], []) else none else none
    | _ => none
  | .tree e t, n => match σ.look n with
    | some (.tree e' t' xs none) => if e' = e then if h : t' = t then some (castD h xs, [], []) else none else none
    | _ => none
def odecs (σ : St) : (i : Nat) → (os : List GO) → List (Nat × Nat) → Option (odens os × List Nat × List Nat × List (Nat × Nat))
  | _, [], B => some ((), [], [], B)
  | i, o :: os, B => match bindL B i with
    | some n => match odec σ o n with
      | some (x, S, B') => match odecs σ (i + 1) os (B ++ B') with
        | some (y, S', ns, B2) => some ((x, y), uni S S', n :: ns, B2)
        | none => none
      | none => none
    | none => none
/-- The caller's name of a callee's name. -/
def bckN (d : Option Tmp) (ns : List Nat) (r : Nat) : Nat := if 10 ≤ r ∧ r < 26 then nm d + (r - 10) else if 30 ≤ r ∧ r < 30 + ns.length then ns.getD (r - 30) 0 else if r = 0 then 0 else 1
def CV.gr (f : Nat → Nat) (S : List Nat) : CV → CV
  | .sc v => .sc v
  | .rd L e t xs => .rd (L.map f ++ S) e t xs
  | .pt L t x o => .pt (L.map f ++ S) t x o
  | .ow n => .ow (f n)
  | .po n o => .po (f n) o
  | .pe n i wd o => .pe (f n) i wd o
  | .fn g l => .fn g (l.map f)
  | _ => .bot
mutual
def AV.gr (f : Nat → Nat) (S : List Nat) : AV → AV
  | .c x => .c (x.gr f S)
  | .agg l => .agg (l.map (CV.gr f S))
  | .tup l => .tup (AV.grL f S l)
def AV.grL (f : Nat → Nat) (S : List Nat) : List AV → List AV
  | [] => []
  | x :: l => x.gr f S :: AV.grL f S l
end
def Ob.gr (f : Nat → Nat) (S : List Nat) : Ob → Ob
  | .box l => .box (l.map (CV.gr f S))
  | .row e t xs L => .row e t xs (match t.flat with | true => [] | false => L.map f ++ S)
  | .tree e t xs h => .tree e t xs h
def obsGr (f : Nat → Nat) (S : List Nat) : List (Nat × Ob) → List (Nat × Ob)
  | [] => []
  | p :: l => (f p.1, p.2.gr f S) :: obsGr f S l
def nodupB : List Nat → Bool
  | [] => true
  | n :: l => !l.contains n && nodupB l
def bindsOk (ns : List Nat) (B : List (Nat × Nat)) : Bool := B.all fun p => match ns[p.1]? with
  | some n => n == p.2
  | none => false
def aCallG (k : GCon) (σ : St) (d : Option Tmp) (args : List AV) : Option Res :=
  match gdecs σ k.ps args with
  | some (c, x, S, B) => match odecs σ 0 k.os B with
    | some (y, S', ns, B2) => if nodupB ns && bindsOk ns B2 && ns.all (fun n => decide (5 < n) && !(nms d).contains n && !(uni S S').contains n) && (uni S S').all (fun n => !(nms d).contains n) then
        some ⟨c ∧ k.c (x, y), (k.r (x, y)).gr (bckN d ns) (uni S S'), nms d ++ ns, nms d, obsGr (bckN d ns) (uni S S') (k.o (x, y))⟩ else none
    | none => none
  | none => none
/-- What the callee sees. -/
def Rz.io (R : Rz) (S ns : List Nat) : Rz :=
  { root := fun b => if R.root b = 0 ∨ R.root b ∈ S then 0 else if R.root b ∈ ns then 30 + ns.idxOf (R.root b) else 5
    hd := fun m => match ns[m - 30]? with | some n => R.hd n | none => .slice none 0 0
    bk := fun m => match ns[m - 30]? with | some n => R.bk n | none => 0 }
def Rz.tk (R : Rz) (d : Option Tmp) (ns : List Nat) (n : Nat) (R' : Rz) : Rz :=
  { root := fun b => if b < n then (if R.root b ∈ ns then bckN d ns (R'.root b) else if R.root b ∈ nms d then 1 else R.root b) else bckN d ns (R'.root b)
    hd := fun m => if nm d ≤ m ∧ m < nm d + 16 then R'.hd (m - nm d + 10) else R.hd m
    bk := fun m => if nm d ≤ m ∧ m < nm d + 16 then R'.bk (m - nm d + 10) else R.bk m }
section
variable {P : Program} {R0 R R' : Rz} {w0 w w' : World} {σ : St} {a : Act} {o : Oper} {K : Act → World → Prop} {Q : Exit → Act → World → Prop} {d : Option Tmp} {S ns : List Nat}
theorem nodupB_iff {l : List Nat} : nodupB l = true ↔ l.Nodup := by
  induction l with
  | nil => simp [nodupB]
  | cons n l ih => simp [nodupB, ih]
theorem okS_io {S' : List Nat} (h : ∀ n ∈ S', n ∈ S) : ∀ b, okS R S' b → okS (R.io S ns) [] b := by
  intro b hb
  left
  show (if R.root b = 0 ∨ R.root b ∈ S then 0 else _) = 0
  rw [if_pos]
  exact hb.imp id (h _)
theorem io_at {k n : Nat} (h : ns[k]? = some n) : (R.io S ns).hd (ioN k) = R.hd n ∧ (R.io S ns).bk (ioN k) = R.bk n := by
  have e : ioN k - 30 = k := by unfold ioN; omega
  constructor <;> simp [Rz.io, e, h]
theorem idx_at {l : List Nat} (hn : l.Nodup) : ∀ {k n : Nat}, l[k]? = some n → l.idxOf n = k := by
  induction l with
  | nil => intro k n h; simp at h
  | cons m l ih =>
    intro k n h
    simp only [List.nodup_cons] at hn
    cases k with
    | zero => simp at h; subst h; simp
    | succ k =>
      simp only [List.getElem?_cons_succ] at h
      have hne : m ≠ n := by rintro rfl; exact hn.1 (List.mem_of_getElem? h)
      have hbe : (m == n) = false := by simpa using hne
      rw [List.idxOf_cons, hbe, ih hn.2 h]
      rfl
theorem io_root {k n b : Nat} (hn : ns.Nodup) (h : ns[k]? = some n) (h0 : n ≠ 0) (hS : n ∉ S) (hb : R.root b = n) : (R.io S ns).root b = ioN k := by
  show (if R.root b = 0 ∨ R.root b ∈ S then 0 else if R.root b ∈ ns then 30 + ns.idxOf (R.root b) else 5) = _
  rw [hb, if_neg (by rintro (h | h) <;> contradiction), if_pos (List.mem_of_getElem? h), idx_at hn h]
  rfl
theorem io_le {b : Nat} (h : R.root b ∉ ns) : (R.io S ns).root b ≤ 5 := by
  show (if R.root b = 0 ∨ R.root b ∈ S then 0 else if R.root b ∈ ns then 30 + ns.idxOf (R.root b) else 5) ≤ 5
  rw [if_neg h]
  split <;> omega
theorem fdecs_ok (hs : Sim R0 w0 R σ a w) : ∀ {fs : List GF} {l : List CV} {us : List Value} {x : fdens fs} {S1 : List Nat} {B : List (Nat × Nat)}, VRs R w l us → fdecs σ fs l = some (x, S1, B) → (∀ n ∈ S1, n ∈ S) →
    (∀ p ∈ B, ns[p.1]? = some p.2) → VRs (R.io S ns) w (gfs fs x) us := by
  intro fs
  induction fs with
  | nil =>
    intro l us x S1 B h1 h2 _ _
    cases l with
    | nil => exact h1
    | cons v l => simp [fdecs] at h2
  | cons p fs ih =>
    intro l us x S1 B h1 h2 hS hB
    cases p with
    | rd t =>
      simp only [fdecs] at h2
      split at h2
      · rename_i y S2 z S3 B' e1 e2
        cases h2
        simp only [gfs]
        have k1 := (rds_ok hs t (h1.take t.w) e1).mono (okS_io (R := R) (S := S) (ns := ns) fun n hn => hS n (uni_l hn))
        have := k1.cells.append (ih (h1.drop t.w) e2 (fun n hn => hS n (uni_r hn)) hB)
        rwa [List.take_append_drop] at this
      · cases h2
    | ow k =>
      cases l with
      | nil => simp [fdecs] at h2
      | cons c l =>
        simp only [fdecs] at h2
        split at h2
        · rename_i n y S3 B' e2
          cases h2
          obtain ⟨u, us', rfl, h3, h4⟩ := h1
          simp only [gfs]
          refine ⟨u, us', rfl, ?_, ih h4 e2 hS (fun p hp => hB p (List.mem_cons_of_mem _ hp))⟩
          simp only [VRc] at h3 ⊢
          rw [(io_at (R := R) (S := S) (hB (k, n) List.mem_cons_self)).1]
          exact h3
        · cases h2
theorem gdecs_ok (hs : Sim R0 w0 R σ a w) : ∀ {ps : List GP} {l : List AV} {us : List Value} {c : Prop} {x : gdens ps} {S1 : List Nat} {B : List (Nat × Nat)}, VRt R w l us → gdecs σ ps l = some (c, x, S1, B) → c → (∀ n ∈ S1, n ∈ S) →
    (∀ p ∈ B, ns[p.1]? = some p.2) → VRt (R.io S ns) w (gavs ps x) us := by
  intro ps
  induction ps with
  | nil =>
    intro l us c x S1 B h1 h2 _ _ _
    cases l with
    | nil => simp only [VRt] at h1; subst h1; simp [gavs, VRt]
    | cons v l => simp [gdecs] at h2
  | cons p ps ih =>
    intro l us c x S1 B h1 h2 hc hS hB
    cases l with
    | nil => cases p <;> simp [gdecs] at h2
    | cons v l =>
      simp only [VRt] at h1
      obtain ⟨u, us', rfl, h3, h4⟩ := h1
      cases p with
      | val t =>
        simp only [gdecs] at h2
        split at h2
        · rename_i y S2 c' z S3 B' e1 e2
          cases h2
          simp only [gavs, VRt, GP.av]
          exact ⟨u, us', rfl, decV_ok hs (S1 := S) (fun _ h => okS_io h) h3 e1 (fun n hn => hS n (uni_l hn)), ih h4 e2 hc (fun n hn => hS n (uni_r hn)) hB⟩
        · cases h2
      | ptr t =>
        simp only [gdecs] at h2
        split at h2
        · rename_i c1 y S2 c' z S3 B' e1 e2
          cases h2
          simp only [gavs, VRt, GP.av]
          exact ⟨u, us', rfl, decP_ok hs (S1 := S) (fun _ h => okS_io h) h3 e1 hc.1 (fun n hn => hS n (uni_l hn)), ih h4 e2 hc.2 (fun n hn => hS n (uni_r hn)) hB⟩
        · cases h2
      | one t =>
        simp only [gdecs] at h2
        split at h2
        · rename_i q c' z S3 B' e2
          split at h2
          case h_2 => cases h2
          rename_i y S2 e1
          cases h2
          simp only [gavs, VRt, GP.av]
          refine ⟨u, us', rfl, ?_, ih h4 e2 hc (fun n hn => hS n (uni_r hn)) hB⟩
          simp only [VR] at h3 ⊢
          obtain ⟨vs, rfl, h5⟩ := h3
          exact ⟨vs, rfl, ((rds_ok hs t h5 e1).mono (okS_io (R := R) (S := S) (ns := ns) fun n hn => hS n (uni_l hn))).cells⟩
        · cases h2
      | po k =>
        simp only [gdecs] at h2
        split at h2
        · rename_i n c' z S3 B' e2
          cases h2
          simp only [gavs, VRt, GP.av]
          refine ⟨u, us', rfl, ?_, ih h4 e2 hc hS (fun p hp => hB p (List.mem_cons_of_mem _ hp))⟩
          simp only [VR, VRc] at h3 ⊢
          rw [(io_at (R := R) (S := S) (hB (k, n) List.mem_cons_self)).2]
          exact h3
        · cases h2
      | ow k =>
        simp only [gdecs] at h2
        split at h2
        · rename_i n c' z S3 B' e2
          cases h2
          simp only [gavs, VRt, GP.av]
          refine ⟨u, us', rfl, ?_, ih h4 e2 hc hS (fun p hp => hB p (List.mem_cons_of_mem _ hp))⟩
          simp only [VR, VRc] at h3 ⊢
          rw [(io_at (R := R) (S := S) (hB (k, n) List.mem_cons_self)).1]
          exact h3
        · cases h2
      | ag fs =>
        simp only [gdecs] at h2
        split at h2
        · rename_i q c' z S3 B' e2
          split at h2
          case h_2 => cases h2
          rename_i y S2 B2 e1
          cases h2
          simp only [gavs, VRt, GP.av]
          refine ⟨u, us', rfl, ?_, ih h4 e2 hc (fun n hn => hS n (uni_r hn)) (fun p hp => hB p (List.mem_append_right _ hp))⟩
          simp only [VR] at h3 ⊢
          obtain ⟨vs, rfl, h5⟩ := h3
          exact ⟨vs, rfl, fdecs_ok hs h5 e1 (fun n hn => hS n (uni_l hn)) (fun p hp => hB p (List.mem_append_left _ hp))⟩
        · cases h2
theorem odec_ok (hs : Sim R0 w0 R σ a w) (hn : ns.Nodup) {q : GO} {n i : Nat} {x : q.den} {S1 : List Nat} {B : List (Nat × Nat)} (hi : ns[i]? = some n) (h0 : n ≠ 0) (hnS : n ∉ S) (h : odec σ q n = some (x, S1, B)) (hS : ∀ n ∈ S1, n ∈ S)
    (hB : ∀ p ∈ B, ns[p.1]? = some p.2) : OR (R.io S ns) w (ioN i) (q.ob x) := by
  obtain ⟨e1, e2⟩ := io_at (R := R) (S := S) hi
  cases q with
  | box fs =>
    simp only [odec] at h
    split at h
    · rename_i l he
      obtain ⟨us, T, h1, h2, h3⟩ := hs.look he
      exact ⟨us, T, by rw [e2]; exact h1, by rw [e2]; exact io_root hn hi h0 hnS h2, fdecs_ok hs h3 h hS hB⟩
    · cases h
  | row e t =>
    simp only [odec] at h
    split at h
    · rename_i e' t' xs S' he
      split at h
      case isFalse => cases h
      rename_i hc
      obtain ⟨rfl, hf⟩ := hc
      split at h
      case isFalse => cases h
      rename_i ht
      subst ht
      cases h
      rcases hs.look he with ⟨h1, h2⟩ | ⟨cap, cur, h1, h2, h3, h4, h5, h6, h7⟩
      · exact .inl ⟨by rw [e1]; exact h1, h2⟩
      · exact .inr ⟨cap, cur, by rw [e1, e2]; exact h1, by rw [e2]; exact io_root hn hi h0 hnS h2, by rw [e2]; exact h3, h4, h5, h6, fun j hj => Rd.flat hf (h7 j hj)⟩
    · cases h
  | tree e t =>
    simp only [odec] at h
    split at h
    · rename_i e' t' xs he
      split at h
      case isFalse => cases h
      rename_i hc
      subst hc
      split at h
      case isFalse => cases h
      rename_i ht
      subst ht
      cases h
      rcases hs.look he with ⟨h1, h2⟩ | ⟨cap, cur, h1, h2, h3, h4, h5, h6, h7, h8⟩
      · exact .inl ⟨by rw [e1]; exact h1, h2⟩
      · exact .inr ⟨cap, cur, by rw [e1, e2]; exact h1, by rw [e2]; exact io_root hn hi h0 hnS h2, by rw [e2]; exact h3, h4, h5, h6, fun j hj hh => (h7 j hj hh).mv fun c b l k hc hr hlt => ⟨rfl, io_root hn hi h0 hnS hr⟩, by rw [e2]; exact h8⟩
    · cases h
theorem odecs_binds : ∀ {os : List GO} {i : Nat} {B B2 : List (Nat × Nat)} {x : odens os} {S1 ns1 : List Nat}, odecs σ i os B = some (x, S1, ns1, B2) → (∀ p ∈ B, p ∈ B2) ∧ ns1.length = os.length := by
  intro os
  induction os with
  | nil => intro i B B2 x S1 ns1 h; simp only [odecs, Option.some.injEq, Prod.mk.injEq] at h; obtain ⟨_, _, rfl, rfl⟩ := h; exact ⟨fun p hp => hp, rfl⟩
  | cons q os ih =>
    intro i B B2 x S1 ns1 h
    simp only [odecs] at h
    split at h
    case h_2 => cases h
    split at h
    case h_2 => cases h
    split at h
    case h_2 => cases h
    rename_i e
    cases h
    obtain ⟨k1, k2⟩ := ih e
    exact ⟨fun p hp => k1 p (List.mem_append_left _ hp), by simp [k2]⟩
theorem odecs_ok (hs : Sim R0 w0 R σ a w) (hn : ns.Nodup) (h0 : ∀ n ∈ ns, n ≠ 0 ∧ n ∉ S) : ∀ {os : List GO} {i : Nat} {B B2 : List (Nat × Nat)} {x : odens os} {S1 ns1 : List Nat}, odecs σ i os B = some (x, S1, ns1, B2) → (∀ n ∈ S1, n ∈ S) →
    (∀ k n, ns1[k]? = some n → ns[i + k]? = some n) → (∀ p ∈ B2, ns[p.1]? = some p.2) → obsOk (R.io S ns) w (gobs i os x) := by
  intro os
  induction os with
  | nil => intro i B B2 x S1 ns1 _ _ _ _ p hp; simp [gobs] at hp
  | cons q os ih =>
    intro i B B2 x S1 ns1 h hS hns hB
    simp only [odecs] at h
    split at h
    case h_2 => cases h
    rename_i n e1
    split at h
    case h_2 => cases h
    rename_i y S2 B' e2
    split at h
    case h_2 => cases h
    rename_i z S3 ns2 B3 e3
    cases h
    have hi : ns[i]? = some n := by simpa using hns 0 n (by simp)
    have hm := h0 n (List.mem_of_getElem? hi)
    intro p hp
    simp only [gobs, List.mem_cons] at hp
    rcases hp with rfl | hp
    · exact odec_ok hs hn hi hm.1 hm.2 e2 (fun n hn => hS n (uni_l hn)) fun p hp => hB p ((odecs_binds e3).1 p (List.mem_append_right _ hp))
    · exact ih e3 (fun n hn => hS n (uni_r hn)) (fun k m hk => by rw [(by omega : i + 1 + k = i + (k + 1))]; exact hns (k + 1) m (by simpa using hk)) hB p hp

theorem nmOk_iff {n m : Nat} : nmOk n m = true ↔ (10 ≤ m ∧ m < 26) ∨ (30 ≤ m ∧ m < 30 + n) := by simp [nmOk]
section
variable (hk : Keeps (R.io S ns) w R' w') (hpl : ∀ n, 30 ≤ n → n < 46 → R'.hd n = (R.io S ns).hd n ∧ R'.bk n = (R.io S ns).bk n) (hl : ns.length ≤ 16)
  (hS : ∀ n ∈ S, n ∉ nms d) (hNS : ∀ n ∈ ns, n ∉ S ∧ n ∉ nms d ∧ 5 < n)
include hk hpl hl hS hNS
theorem tk_root {b n : Nat} (hn : nmOk ns.length n = true) (hb : R'.root b = n) : (R.tk d ns w.heap.size R').root b = bckN d ns n := by
  rw [nmOk_iff] at hn
  show (if _ then (if _ then _ else _) else _) = _
  by_cases hlt : b < w.heap.size
  · rw [if_pos hlt]
    by_cases hr : R.root b ∈ ns
    · rw [if_pos hr, hb]
    · obtain ⟨_, h2⟩ := hk.keep b hlt (io_le hr)
      have := io_le (S := S) hr
      rw [← h2, hb] at this
      omega
  · rw [if_neg hlt, hb]
theorem tk_ok {L : List Nat} (hL : L.all (nmOk ns.length) = true) {b : Nat} (hb : okS R' L b) : okS (R.tk d ns w.heap.size R') (L.map (bckN d ns) ++ S) b := by
  rcases hb with hb | hb
  · show (if _ then (if _ then _ else _) else _) = 0 ∨ (if _ then (if _ then _ else _) else _) ∈ _
    by_cases hlt : b < w.heap.size
    · rw [if_pos hlt]
      by_cases hr : R.root b ∈ ns
      · rw [if_pos hr, hb]; left; simp [bckN]
      · rw [if_neg hr]
        obtain ⟨_, h2⟩ := hk.keep b hlt (io_le hr)
        rw [hb] at h2
        have h2 : 0 = (if R.root b = 0 ∨ R.root b ∈ S then 0 else if R.root b ∈ ns then 30 + ns.idxOf (R.root b) else 5) := h2
        by_cases h3 : R.root b = 0 ∨ R.root b ∈ S
        · have h4 : R.root b ∉ nms d := by
            rcases h3 with h3 | h3
            · rw [h3, mem_nms]; have := nm_lt d; omega
            · exact hS _ h3
          rw [if_neg h4]
          exact h3.imp id fun h => List.mem_append_right _ h
        · rw [if_neg h3, if_neg hr] at h2; cases h2
    · rw [if_neg hlt, hb]; left; simp [bckN]
  · right
    rw [tk_root hk hpl hl hS hNS (List.all_eq_true.1 hL _ hb) rfl]
    exact List.mem_append_left _ (List.mem_map.2 ⟨_, hb, rfl⟩)
theorem tk_at {n : Nat} (hn : nmOk ns.length n = true) : (R.tk d ns w.heap.size R').hd (bckN d ns n) = R'.hd n ∧ (R.tk d ns w.heap.size R').bk (bckN d ns n) = R'.bk n := by
  rw [nmOk_iff] at hn
  by_cases h1 : 10 ≤ n ∧ n < 26
  · have e1 : bckN d ns n = nm d + (n - 10) := by simp [bckN, h1]
    rw [e1]
    have e2 : nm d ≤ nm d + (n - 10) ∧ nm d + (n - 10) < nm d + 16 := by omega
    have e3 : nm d + (n - 10) - nm d + 10 = n := by omega
    constructor
    · show (if _ then R'.hd _ else _) = _; rw [if_pos e2, e3]
    · show (if _ then R'.bk _ else _) = _; rw [if_pos e2, e3]
  · have h2 : 30 ≤ n ∧ n < 30 + ns.length := by omega
    have hlt : n - 30 < ns.length := by omega
    have e1 : bckN d ns n = ns[n - 30] := by simp [bckN, h1, h2, List.getD, hlt]
    have hm : ns[n - 30] ∈ ns := List.getElem_mem hlt
    have h3 := (hNS _ hm).2.1
    rw [mem_nms] at h3
    obtain ⟨p1, p2⟩ := hpl n h2.1 (by omega)
    have e4 : ns[n - 30]? = some ns[n - 30] := List.getElem?_eq_getElem hlt
    obtain ⟨q1, q2⟩ := io_at (R := R) (S := S) e4
    have e5 : ioN (n - 30) = n := by unfold ioN; omega
    rw [e5] at q1 q2
    rw [e1]
    constructor
    · show (if _ then R'.hd _ else _) = _; rw [if_neg h3, p1, q1]
    · show (if _ then R'.bk _ else _) = _; rw [if_neg h3, p2, q2]
theorem VRc.tk {c : CV} {u : Value} (h : VRc R' w' c u) (hc : c.nmOk ns.length = true) : VRc (R.tk d ns w.heap.size R') w' (c.gr (bckN d ns) S) u := by
  simp only [CV.nmOk, Bool.and_eq_true] at hc
  obtain ⟨c1, c2⟩ := hc
  have at1 : ∀ n, n ∈ c.ids → (R.tk d ns w.heap.size R').hd (bckN d ns n) = R'.hd n ∧ (R.tk d ns w.heap.size R').bk (bckN d ns n) = R'.bk n := fun n hn => tk_at hk hpl hl hS hNS (List.all_eq_true.1 c2 n hn)
  cases c with
  | sc v => exact h
  | rd L e t xs => exact Rd.mono h fun b hb => tk_ok hk hpl hl hS hNS c1 hb
  | pt L t x k =>
    obtain ⟨b, q, us, rfl, h1, h2, h3, h4⟩ := h
    exact ⟨b, q, us, rfl, tk_ok hk hpl hl hS hNS c1 h1, h2, h3, h4.mono fun b hb => tk_ok hk hpl hl hS hNS c1 hb⟩
  | ow n => show u = _; rw [(at1 n (by simp [CV.ids])).1]; exact h
  | po n k => show u = .pointer (some ⟨_, k, none⟩); rw [(at1 n (by simp [CV.ids])).2]; exact h
  | pe n i wd k => show u = .pointer (some ⟨_, i * wd + k, none⟩); rw [(at1 n (by simp [CV.ids])).2]; exact h
  | sub _ _ _ _ _ _ _ => trivial
  | pi _ _ _ _ _ _ _ _ => trivial
  | fn f l =>
    have h : u = _ := h
    show u = .func (.func f) #[] ((l.map (bckN d ns)).map _).toArray
    rw [h, List.map_map]
    congr 2
    exact List.map_congr_left fun n hn => by simp only [Function.comp]; rw [(at1 n (by simpa [CV.ids] using hn)).2]
  | bot => trivial
theorem VRs.tk {l : List CV} {us : List Value} (h : VRs R' w' l us) (hc : l.all (CV.nmOk ns.length) = true) : VRs (R.tk d ns w.heap.size R') w' (l.map (CV.gr (bckN d ns) S)) us := by
  induction l generalizing us with
  | nil => exact h
  | cons c l ih =>
    obtain ⟨u, us', rfl, h1, h2⟩ := h
    simp only [List.all_cons, Bool.and_eq_true] at hc
    exact ⟨u, us', rfl, h1.tk hk hpl hl hS hNS hc.1, ih h2 hc.2⟩
omit hk hpl hl hS hNS in
theorem VRtk_aux {f : Nat → Nat} {R1 : Rz} {m : Nat} (hs : ∀ (l : List CV) (us : List Value), VRs R' w' l us → l.all (CV.nmOk m) = true → VRs R1 w' (l.map (CV.gr f S)) us) (hc : ∀ c u, VRc R' w' c u → c.nmOk m = true → VRc R1 w' (c.gr f S) u) :
    (∀ x u, VR R' w' x u → x.nmOk m = true → VR R1 w' (x.gr f S) u) := by
  intro x
  refine AV.rec (motive_1 := fun x => ∀ u, VR R' w' x u → x.nmOk m = true → VR R1 w' (x.gr f S) u) (motive_2 := fun l => ∀ us, VRt R' w' l us → AV.nmOkL m l = true → VRt R1 w' (AV.grL f S l) us) ?_ ?_ ?_ ?_ ?_ x
  · intro c u h h2; simp only [VR, AV.gr, AV.nmOk] at h h2 ⊢; exact hc c u h h2
  · intro l u h h2; simp only [VR, AV.gr, AV.nmOk] at h h2 ⊢; obtain ⟨us, rfl, h1⟩ := h; exact ⟨us, rfl, hs l _ h1 h2⟩
  · intro l ih u h h2; simp only [VR, AV.gr, AV.nmOk] at h h2 ⊢; obtain ⟨us, rfl, h1⟩ := h; exact ⟨us, rfl, ih _ h1 h2⟩
  · intro us h _; simpa only [VRt, AV.grL] using h
  · intro x l h1 h2 us h h3
    simp only [VRt, AV.grL, AV.nmOkL, Bool.and_eq_true] at h h3 ⊢
    obtain ⟨u, us', rfl, h4, h5⟩ := h
    exact ⟨u, us', rfl, h1 u h4 h3.1, h2 us' h5 h3.2⟩
theorem VR.tk {x : AV} {u : Value} (h : VR R' w' x u) (hc : x.nmOk ns.length = true) : VR (R.tk d ns w.heap.size R') w' (x.gr (bckN d ns) S) u :=
  VRtk_aux (fun l us h h2 => VRs.tk hk hpl hl hS hNS h h2) (fun c u h h2 => VRc.tk hk hpl hl hS hNS h h2) x u h hc
theorem OR.tk {n : Nat} {q : Ob} (h : OR R' w' n q) (hn : nmOk ns.length n = true) (hc : q.nmOk ns.length = true) : OR (R.tk d ns w.heap.size R') w' (bckN d ns n) (q.gr (bckN d ns) S) := by
  obtain ⟨e1, e2⟩ := tk_at hk hpl hl hS hNS hn
  cases q with
  | box l =>
    obtain ⟨us, T, h1, h2, h3⟩ := h
    exact ⟨us, T, by rw [e2]; exact h1, by rw [e2]; exact tk_root hk hpl hl hS hNS hn h2, h3.tk hk hpl hl hS hNS hc⟩
  | row e t xs L =>
    simp only [Ob.gr]
    rcases h with ⟨h1, h2⟩ | ⟨cap, cur, h1, h2, h3, h4, h5, h6, h7⟩
    · exact .inl ⟨by rw [e1]; exact h1, h2⟩
    · refine .inr ⟨cap, cur, by rw [e1, e2]; exact h1, by rw [e2]; exact tk_root hk hpl hl hS hNS hn h2, by rw [e2]; exact h3, h4, h5, h6, fun j hj => ?_⟩
      split
      · rename_i hf; exact Rd.flat hf (h7 j hj)
      · exact (h7 j hj).mono fun b hb => tk_ok hk hpl hl hS hNS hc hb
  | tree e t xs h' =>
    rcases h with ⟨h1, h2⟩ | ⟨cap, cur, h1, h2, h3, h4, h5, h6, h7, h8⟩
    · exact .inl ⟨by rw [e1]; exact h1, h2⟩
    · exact .inr ⟨cap, cur, by rw [e1, e2]; exact h1, by rw [e2]; exact tk_root hk hpl hl hS hNS hn h2, by rw [e2]; exact h3, h4, h5, h6, fun j hj hh => (h7 j hj hh).mv fun c b l k hc' hr hlt => ⟨rfl, tk_root hk hpl hl hS hNS hn hr⟩, by rw [e2]; exact h8⟩
theorem obsOk.tk : ∀ {l : List (Nat × Ob)}, obsOk R' w' l → obsNmOk ns.length l = true → obsOk (R.tk d ns w.heap.size R') w' (obsGr (bckN d ns) S l) := by
  intro l
  induction l with
  | nil => intro _ _ p hp; simp [obsGr] at hp
  | cons q l ih =>
    intro h h2 p hp
    simp only [obsNmOk, Bool.and_eq_true] at h2
    simp only [obsGr, List.mem_cons] at hp
    rcases hp with rfl | hp
    · exact OR.tk hk hpl hl hS hNS (h q List.mem_cons_self) h2.1.1 h2.1.2
    · exact ih (fun p hp => h p (List.mem_cons_of_mem _ hp)) h2.2 p hp
theorem fr_tk : FR (nms d ++ ns) (nms d) R w (R.tk d ns w.heap.size R') w' := by
  refine ⟨hk.os, hk.tape, hk.output, hk.size, fun b hb hr => ?_, fun m hm => ?_, fun m hm => ?_⟩
  · simp only [List.mem_append, not_or] at hr
    obtain ⟨h1, _⟩ := hk.keep b hb (io_le hr.2)
    exact ⟨h1, by simp [Rz.tk, hb, hr.1, hr.2]⟩
  · rw [mem_nms] at hm
    simp [Rz.tk, hm]
  · have h1 := nm_ge d
    have : ¬ (nm d ≤ m ∧ m < nm d + 16) := by omega
    simp [Rz.tk, this]
end
theorem aCallG_ok {f : FuncId} {k : GCon} {args : List AV} {us : Array Value} {r : Res} (hT : GenT P f k) (hrun : Enters P a o w f us) (hargs : VRt R w args us.toList)
    (h : aCallG k σ o.dst args = some r) (hc : r.c) (hs : Sim R0 w0 R σ a w)
    (hK : ∀ R' v w', Done R w r.N r.M r.r r.news R' v w' → K (a.put o.dst v) w') : o.wp P a w K Q := by
  unfold aCallG at h
  split at h
  case h_2 => cases h
  rename_i c x S1 B e1
  split at h
  case h_2 => cases h
  rename_i y S2 ns B2 e2
  split at h
  case isFalse => cases h
  rename_i hcond
  cases h
  simp only [Bool.and_eq_true, Bool.not_eq_true'] at hcond
  obtain ⟨⟨⟨d1, d2⟩, d3⟩, d4⟩ := hcond
  have d1 := nodupB_iff.1 d1
  have hB : ∀ p ∈ B2, ns[p.1]? = some p.2 := fun p hp => by
    have := List.all_eq_true.1 d2 p hp
    split at this
    · rename_i n e; rw [e]; simpa using this
    · cases this
  have hNS : ∀ n ∈ ns, n ∉ uni S1 S2 ∧ n ∉ nms o.dst ∧ 5 < n := fun n hn => by
    have := List.all_eq_true.1 d3 n hn
    simp only [Bool.and_eq_true, decide_eq_true_eq, Bool.not_eq_true'] at this
    obtain ⟨⟨q1, q2⟩, q3⟩ := this
    exact ⟨fun h => by simp [h] at q3, fun h => by simp [h] at q2, q1⟩
  have hS : ∀ n ∈ uni S1 S2, n ∉ nms o.dst := fun n hn h => by
    have := List.all_eq_true.1 d4 n hn
    simp [h] at this
  obtain ⟨b1, b2⟩ := odecs_binds e2
  have h1 := gdecs_ok (S := uni S1 S2) (ns := ns) hs hargs e1 hc.1 (fun n hn => uni_l hn) (fun p hp => hB p (b1 p hp))
  have h2 := odecs_ok (S := uni S1 S2) hs d1 (fun n hn => ⟨by have := (hNS n hn).2.2; omega, (hNS n hn).1⟩) e2 (fun n hn => uni_r hn) (fun k n hk => by simpa using hk) hB
  obtain ⟨o1, o2, o3⟩ := k.ok (x, y)
  rw [← b2] at o1 o2 o3
  unfold Oper.wp
  rw [show (execOp a.eval o).run P w = _ from hrun, Oper.upon_enter]
  refine (hT (x, y) hc.2 (R.io (uni S1 S2) ns) w us h1 h2).mono fun e w' hh => ?_
  obtain ⟨v, R', rfl, h3, h4, h5, h6⟩ := hh
  simp only
  refine hK (R.tk o.dst ns w.heap.size R') _ _ ⟨fr_tk h5 h6 o3 hS hNS, fun n hn => ?_, VR.tk h5 h6 o3 hS hNS h3 o1, obsOk.tk h5 h6 o3 hS hNS h4 o2⟩
  rcases List.mem_append.1 hn with hn | hn
  · rw [mem_nms] at hn; have := nm_lt o.dst; omega
  · exact (hNS n hn).2.2
/-- A call that changes a slice of an element of a tree in place. -/
def isSub : List AV → Bool
  | .c (.sub _ _ _ _ _ _ _) :: _ => true
  | _ => false
def noNm : AV → Bool
  | .c (.sc _) => true
  | _ => false
def aCallS (k : GCon) (σ : St) : List AV → Option Res
  | [.c (.sub n i wd o e t xs), .c (.sc (.int ik' y))] => match k with
    | ⟨[.ow 0, .val (.int ik)], [.row e' t'], c, r, ob, ok⟩ => match σ.look n with
      | some (.tree e2 T XS none) => if e' = e ∧ wd = T.w ∧ o < T.w ∧ 5 < n ∧ t.flat = true ∧ ik' = ik then if h : t = t' then match ob (((), y, ()), (castD h xs, ())) with
          | [(30, .row e3 t3 ys _)] => if e3 = e ∧ noNm (r (((), y, ()), (castD h xs, ()))) = true then if h3 : t3 = t then match updRow T o t (fun _ => castD h3 ys) (XS.getD i T.dflt) with
            | some z => some ⟨i < XS.length ∧ c (((), y, ()), (castD h xs, ())), r (((), y, ()), (castD h xs, ())), [n], [], [(n, .tree e2 T (XS.set i z) none)]⟩
            | none => none else none else none
          | _ => none else none else none
      | _ => none
    | _ => none
  | _ => none
/-- Calls of functions, and of function values. -/
def aCallA (T : Tab) (σ : St) (d : Option Tmp) (f : FuncId) (args : List AV) : Option Res :=
  match T f with
  | some (.p k) => aCallP k σ d args
  | some (.g k) => match isSub args with
    | true => aCallS k σ args
    | false => aCallG k σ d args
  | none => none
def aCall (T : Tab) (σ : St) (d : Option Tmp) (f : Operand) (args : List Operand) : Option Res :=
  match f with
  | .func f => aCallA T σ d f (args.map σ.ev)
  | .tmp t => match σ.get t with
    | .c (.fn f l) => aCallA T σ d f (args.map σ.ev ++ l.map fun n => .c (.po n 0))
    | _ => none
  | _ => none
theorem ElO.updNil {n : Nat} {t : Ty} : ∀ (T : Ty) {o : Nat} {us : List Value} {x z : T.den}, ElO R w n T us x → us[o]? = some (.slice none 0 0) → updRow T o t (fun _ => []) x = some z → ElO R w n T us z := by
  intro T
  induction T with
  | int k => intro o us x z _ _ h; simp [updRow] at h
  | bool => intro o us x z _ _ h; simp [updRow] at h
  | str => intro o us x z _ _ h; simp [updRow] at h
  | row e t' ih =>
    intro o us x z h1 h2 h3
    simp only [updRow] at h3
    split at h3
    case isFalse => cases h3
    rename_i ho
    subst ho
    split at h3
    case isFalse => cases h3
    rename_i ht
    subst ht
    cases h3
    obtain ⟨k1, u, rfl, k2⟩ := h1
    simp only [List.getElem?_cons_zero, Option.some.injEq] at h2
    subst h2
    exact ⟨k1, _, rfl, .inl ⟨rfl, rfl⟩⟩
  | prod p q hp hq =>
    intro o us x z h1 h2 h3
    obtain ⟨u1, u2, rfl, k1, k2⟩ := h1
    have l1 := k1.rd.len
    simp only [updRow] at h3
    split at h3
    · rename_i ho
      split at h3
      case h_2 => cases h3
      rename_i y e1
      cases h3
      rw [List.getElem?_append_left (by omega)] at h2
      exact ⟨u1, u2, rfl, hp k1 h2 e1, k2⟩
    · rename_i ho
      split at h3
      case h_2 => cases h3
      rename_i y e1
      cases h3
      rw [List.getElem?_append_right (by omega), l1] at h2
      exact ⟨u1, u2, rfl, k1, hq k2 h2 e1⟩
theorem aCallS_ok {f : FuncId} {k : GCon} {args : List AV} {us : Array Value} {r : Res} (hT : GenT P f k) (hrun : Enters P a o w f us) (hargs : VRt R w args us.toList)
    (h : aCallS k σ args = some r) (hc : r.c) (hs : Sim R0 w0 R σ a w)
    (hK : ∀ R' v w', Done R w r.N r.M r.r r.news R' v w' → K (a.put o.dst v) w') : o.wp P a w K Q := by
  unfold aCallS at h
  split at h
  case h_2 => cases h
  rename_i n i wd oo e t xs ik' y
  split at h
  case h_2 => cases h
  rename_i ik e' t' c rr ob ok
  split at h
  case h_2 => cases h
  rename_i e2 T XS he
  split at h
  case isFalse => cases h
  rename_i hcond
  obtain ⟨rfl, rfl, c1, c2, c3, rfl⟩ := hcond
  split at h
  case isFalse => cases h
  rename_i ht
  subst ht
  split at h
  case h_2 => cases h
  rename_i e3 t3 ys S3 eo
  split at h
  case isFalse => cases h
  rename_i hcond2
  obtain ⟨rfl, hnm⟩ := hcond2
  split at h
  case isFalse => cases h
  rename_i ht3
  subst ht3
  split at h
  case h_2 => cases h
  rename_i z eu
  cases h
  obtain ⟨hi, hc⟩ := hc
  simp only [castD_eq] at *
  simp only [VRt] at hargs
  obtain ⟨u, us1, eus, hsub, u2, us2, rfl, hv, rfl⟩ := hargs
  simp only [VR, VRc] at hsub hv
  obtain ⟨g1, g2, g3⟩ := hsub
  have tw := T.w_pos
  -- the callee's view
  obtain ⟨b, hb⟩ : ∃ b, b = u.ownBlock.getD w.heap.size := ⟨_, rfl⟩
  have hbn : b < w.heap.size → R.root b = n := fun hlt => by
    rcases g3 with ⟨h1, h2⟩ | ⟨b', cap, cur, h1, h2, _⟩
    · rw [hb, h1] at hlt; simp [Value.ownBlock] at hlt
    · have hbb : b = b' := by rw [hb, h1]; rfl
      rw [hbb]; exact h2
  obtain ⟨R1, hR1⟩ : ∃ R1 : Rz, R1 = ⟨fun x => if x = b then 30 else 5, fun _ => u, fun _ => b⟩ := ⟨_, rfl⟩
  have hrow : OR R1 w 30 (.row e3 t3 xs []) := by
    rcases g3 with ⟨h1, h2⟩ | ⟨b', cap, cur, h1, h2, h3, h4, h5, h6, h7⟩
    · exact .inl ⟨by rw [hR1]; exact h1, h2⟩
    · have hbb : b = b' := by rw [hb, h1]; rfl
      exact .inr ⟨cap, cur, by rw [hR1]; simp only; rw [hbb]; exact h1, by rw [hR1]; simp, by rw [hR1]; simp only; rw [hbb]; exact h3, h4, h5, h6, fun j hj => Rd.flat c3 (h7 j hj)⟩
  have h2 := hT (((), y, ()), (xs, ())) hc R1 w us (by
    rw [eus]
    simp only [gavs, GP.av, Ty.av, VRt]
    exact ⟨_, _, rfl, by simp only [VR, VRc]; rw [hR1], _, _, rfl, by simp only [VR, VRc]; exact hv, rfl⟩) (fun p hp => by
    simp only [gobs, GO.ob, List.mem_singleton] at hp
    subst hp
    exact hrow)
  unfold Oper.wp
  rw [show (execOp a.eval o).run P w = _ from hrun, Oper.upon_enter]
  refine h2.mono fun e w' hh => ?_
  obtain ⟨v, R', rfl, h3, h4, h5, h6⟩ := hh
  simp only
  have h4 : obsOk R' w' (ob (((), y, ()), xs, ())) := h4
  rw [eo] at h4
  have h7 : OR R' w' 30 (.row e3 t3 ys S3) := h4 _ List.mem_cons_self
  obtain ⟨p1, p2⟩ := h6 30 (by omega) (by omega)
  have p1 : R'.hd 30 = u := by rw [p1, hR1]
  have hkeep : ∀ x, x < w.heap.size → x ≠ b → w'.heap[x]? = w.heap[x]? := fun x hx hne => (h5.keep x hx (by rw [hR1]; simp [hne])).1
  obtain ⟨R2, hR2⟩ : ∃ R2 : Rz, R2 = ⟨fun x => if x < w.heap.size then R.root x else 1, R.hd, R.bk⟩ := ⟨_, rfl⟩
  have rt : ∀ x, x < w.heap.size → R2.root x = R.root x := fun x hx => by rw [hR2]; simp [hx]
  refine hK R2 _ _ ⟨⟨h5.os, h5.tape, h5.output, h5.size, fun x hx hr => ⟨hkeep x hx (fun e => hr (by rw [e, hbn (e ▸ hx)]; simp)), rt x hx⟩, fun m _ => by rw [hR2]; exact ⟨rfl, rfl⟩, fun m _ => by rw [hR2]; exact ⟨rfl, rfl⟩⟩, by simpa using c2, ?_, ?_⟩
  · have : ∀ x, noNm x = true → VR R' w' x v → VR R2 w' x v := fun x hx hv => by
      unfold noNm at hx
      split at hx
      · simp only [VR, VRc] at hv ⊢; exact hv
      · cases hx
    exact this _ hnm h3
  intro q hq
  simp only [List.mem_singleton] at hq
  subst hq
  rcases hs.look he with ⟨_, k2⟩ | ⟨cap, cur, k1, k2, k3, k4, k5, k6, k7, k8⟩
  · subst k2; simp at hi
  have hcur : cur.toList[i * T.w + oo]? = some u := by simpa [World.cell?, k3] using g1
  have hlt2 : i * T.w + oo < XS.length * T.w := by
    have : (i + 1) * T.w ≤ XS.length * T.w := Nat.mul_le_mul_right _ hi
    rw [Nat.succ_mul] at this; omega
  have e6 : XS.getD i T.dflt = XS[i] := by simp [List.getD, hi]
  rw [e6] at eu
  have hbk : R.bk n ≠ b := by
    rcases g3 with ⟨h1, _⟩ | ⟨b', cap', cur', h1, _⟩
    · have := (Array.getElem?_eq_some_iff.1 k3).1
      rw [hb, h1]; simp [Value.ownBlock]; omega
    · have hbb : b = b' := by rw [hb, h1]; rfl
      rw [h1] at hcur
      rw [hbb]
      exact Ne.symm (k8 _ b' _ _ hlt2 (by simp [inH]) hcur).1
  have hlt : R.bk n < w.heap.size := (Array.getElem?_eq_some_iff.1 k3).1
  have ebk : R2.bk n = R.bk n := by rw [hR2]
  have ehd : R2.hd n = R.hd n := by rw [hR2]
  refine .inr ⟨cap, cur, by rw [List.length_set, ehd, ebk]; exact k1, by rw [ebk, rt _ hlt]; exact k2, by rw [ebk, hkeep _ hlt hbk]; exact k3, by rw [List.length_set]; exact k4, k5, k6, fun j' hj _ => ?_, by rw [List.length_set, ebk]; exact k8⟩
  have hj' : j' < XS.length := by rw [List.length_set] at hj; exact hj
  have stay : ∀ b', b' ≠ b → R.root b' = n → b' < w.heap.size → w'.heap[b']? = w.heap[b']? ∧ R2.root b' = n := fun b' h1 h2 h3 => ⟨hkeep b' h3 h1, by rw [rt b' h3]; exact h2⟩
  by_cases hji : j' = i
  · subst hji
    rw [List.getElem_set_self]
    have hEl0 := k7 j' hj' (by simp [inH])
    have hat : ((cur.toList.drop (j' * T.w)).take T.w)[oo]? = some u := by rw [drop_take_get c1]; exact hcur
    rcases g3 with ⟨h8, h9⟩ | ⟨b', cap', cur', h8, h9, h10, h11, h12, h13, h14⟩
    · have hys : ys = [] := by
        rcases h7 with ⟨_, q⟩ | ⟨_, _, q, _⟩
        · exact q
        · rw [p1, h8] at q; cases q
      subst hys
      have hb2 : ∀ b', R.root b' = n → b' < w.heap.size → b' ≠ b := fun b' _ h => by rw [hb, h8]; simp [Value.ownBlock]; omega
      have := ElO.updNil T hEl0 (o := oo) (by rw [hat, h8]) eu
      exact this.mv fun c b' l k _ hr hlt => stay b' (hb2 b' hr hlt) hr hlt
    · have hbb : b = b' := by rw [hb, h8]; rfl
      subst hbb
      rcases h7 with ⟨q, _⟩ | ⟨cap2, cur2, q1, q2, q3, q4, q5, q6, q7⟩
      · rw [p1, h8] at q; cases q
      rw [p1, h8] at q1
      injection q1 with q1 q1' q1''
      simp only [Option.some.injEq, Addr.mk.injEq] at q1
      obtain ⟨q1, _⟩ := q1
      subst q1''
      refine ElO.upd (b := b) (l0 := xs.length) (cap0 := cap') (t := t3) (f := fun _ => ys) (fun e' ys0 hro => ?_) stay T hEl0 (o := oo) (by rw [hat, h8]) eu (fun c l k' hc' => ?_)
      · rcases hro with ⟨r1, _⟩ | ⟨b2, cap3, cur3, r1, r2, r3, _⟩
        · cases r1
        · injection r1 with r1 r1' r1''
          simp only [Option.some.injEq, Addr.mk.injEq] at r1
          obtain ⟨r1, _⟩ := r1
          rw [← r1, h10] at r3
          cases r3
          exact .inr ⟨b, cap', cur2, by rw [q1'], by rw [rt _ (Array.getElem?_eq_some_iff.1 h10).1]; exact h9, by rw [q1]; exact q3, by rw [← q1']; exact h11, h12, by rw [q6], fun j hj => Rd.flat c3 (q7 j hj)⟩
      · have hcw : c < T.w := by have := (List.getElem?_eq_some_iff.1 hc').1; simp at this; omega
        rw [drop_take_get hcw] at hc'
        rw [h8] at hcur
        have := (k8 _ b _ _ hlt2 (by simp [inH]) hcur).2 (j' * T.w + c) l k' (by
          have : (j' + 1) * T.w ≤ XS.length * T.w := Nat.mul_le_mul_right _ hj'
          rw [Nat.succ_mul] at this; omega) (by simp [inH]) hc'
        omega
  · rw [List.getElem_set_ne (Ne.symm hji)]
    refine (k7 j' hj' (by simp [inH])).mv fun c b' l' q' hc' hr' hlt' => stay b' ?_ hr' hlt'
    rintro rfl
    rcases g3 with ⟨h8, _⟩ | ⟨b2, cap', cur', h8, _⟩
    · rw [hb, h8] at hlt'; simp [Value.ownBlock] at hlt'
    · have hbb : b' = b2 := by rw [hb, h8]; rfl
      subst hbb
      have hcw : c < T.w := by have := (List.getElem?_eq_some_iff.1 hc').1; simp at this; omega
      rw [drop_take_get hcw] at hc'
      rw [h8] at hcur
      have := (k8 _ b' _ _ hlt2 (by simp [inH]) hcur).2 (j' * T.w + c) l' q' (by
        have : (j' + 1) * T.w ≤ XS.length * T.w := Nat.mul_le_mul_right _ hj'
        rw [Nat.succ_mul] at this; omega) (by simp [inH]) hc'
      apply hji
      have e1 : j' = (j' * T.w + c) / T.w := (div_at' _ hcw).symm
      rw [e1, this]
      exact div_at' _ c1
theorem aCallA_ok {T : Tab} (hT : TabOk P T) {f : FuncId} {args : List AV} {us : Array Value} {r : Res} (hrun : (∃ fn c, P.funcs[f]? = some fn ∧ fn.body = some c ∧ fn.name ≠ "runtime.NumGoroutine") → Enters P a o w f us) (hargs : VRt R w args us.toList)
    (h : aCallA T σ o.dst f args = some r) (hc : r.c) (hs : Sim R0 w0 R σ a w)
    (hK : ∀ R' v w', Done R w r.N r.M r.r r.news R' v w' → K (a.put o.dst v) w') : o.wp P a w K Q := by
  unfold aCallA at h
  split at h
  · rename_i k e; obtain ⟨h1, h2⟩ := hT f _ e; exact aCallP_ok h1 (hrun h2) hargs h hc hs hK
  · rename_i k e; obtain ⟨h1, h2⟩ := hT f _ e
    split at h
    · exact aCallS_ok h1 (hrun h2) hargs h hc hs hK
    · exact aCallG_ok h1 (hrun h2) hargs h hc hs hK
  · cases h
theorem aCall_ok {T : Tab} (hT : TabOk P T) {f : Operand} {args : Array Operand} {ts : Array TypeId} {r : Res} (ho : o.op = .call { callee := .value f, args := args, argTypes := ts }) 
    (h : aCall T σ o.dst f args.toList = some r) (hc : r.c) (hs : Sim R0 w0 R σ a w)
    (hK : ∀ R' v w', Done R w r.N r.M r.r r.news R' v w' → K (a.put o.dst v) w') : o.wp P a w K Q := by
  have hargs : VRt R w (args.toList.map σ.ev) (args.map a.eval).toList := by
    rw [Array.toList_map]
    generalize args.toList = l
    induction l with
    | nil => simp [VRt]
    | cons y l ih => simp only [List.map_cons, VRt]; exact ⟨_, _, rfl, hs.ev y, ih⟩
  unfold aCall at h
  split at h
  · rename_i f
    refine aCallA_ok hT (us := args.map a.eval) (fun ⟨fn, cd, f1, f2, f3⟩ => ?_) hargs h hc hs hK
    unfold Enters execOp
    simp [ho, resolve, invoke, Act.eval, Deferred.ofValue, callFunc, f1, f2, f3]
  · rename_i t
    have h1 := hs.get t
    split at h
    case h_2 => cases h
    rename_i f l e
    rw [e] at h1
    simp only [VR, VRc] at h1
    refine aCallA_ok hT (us := args.map a.eval ++ (l.map fun n => Value.pointer (some ⟨R.bk n, 0, none⟩)).toArray) (fun ⟨fn, cd, f1, f2, f3⟩ => ?_) ?_ h hc hs hK
    · have app : ∀ {l1 l2 : List AV} {u1 u2 : List Value}, VRt R w l1 u1 → VRt R w l2 u2 → VRt R w (l1 ++ l2) (u1 ++ u2) := by
        intro l1
        induction l1 with
        | nil => intro l2 u1 u2 h1 h2; simp only [VRt] at h1; subst h1; exact h2
        | cons c l1 ih =>
          intro l2 u1 u2 h1 h2
          simp only [VRt] at h1
          obtain ⟨u, us', rfl, h3, h4⟩ := h1
          simp only [List.cons_append, VRt]
          exact ⟨u, us' ++ u2, rfl, h3, ih h4 h2⟩
      rw [Array.toList_append]
      refine app hargs ?_
      have : ∀ l : List Nat, VRt R w (l.map fun n => AV.c (.po n 0)) (l.map fun n => Value.pointer (some ⟨R.bk n, 0, none⟩)) := by
        intro l
        induction l with
        | nil => simp [VRt]
        | cons n l ih => simp only [List.map_cons, VRt]; exact ⟨_, _, rfl, by simp [VR, VRc], ih⟩
      exact this l
    · unfold Enters execOp
      simp [ho, resolve, invoke, Act.eval, h1, Deferred.ofValue, callFunc, f1, f2, f3]
  · cases h
end
end Go.Proofs.Ythglggjgjlmhlaa
