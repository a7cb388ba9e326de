/-
  The logic of trees, fourteenth part: a state that tells less, found by comparing.
-/
import Derived.Test.YthglggjgjlmhlaaGm
namespace Go.Proofs.Ythglggjgjlmhlaa
open Go.RowKit
set_option linter.unusedSimpArgs false
set_option linter.unusedVariables false

def AV.isBot : AV → Bool
  | .c .bot => true
  | _ => false
def liveAt : Nat → List AV → List Nat
  | _, [] => []
  | i, x :: l => if x.isBot then liveAt (i + 1) l else i :: liveAt (i + 1) l
def pCV : CV → CV → List (Nat × Nat)
  | .rd S _ _ _, .rd S' _ _ _ => S.map fun n => (n, S'.headD 0)
  | .pt S _ _ _, .pt S' _ _ _ => S.map fun n => (n, S'.headD 0)
  | .ow n, .ow m => [(n, m)]
  | .po n _, .po m _ => [(n, m)]
  | .pe n _ _ _, .pe m _ _ _ => [(n, m)]
  | .sub n _ _ _ _ _ _, .sub m _ _ _ _ _ _ => [(n, m)]
  | .pi n _ _ _ _ _ _ _, .pi m _ _ _ _ _ _ _ => [(n, m)]
  | .fn _ l, .fn _ l' => l.zip l'
  | _, _ => []
def pCVs : List CV → List CV → List (Nat × Nat)
  | x :: l, y :: l' => pCV x y ++ pCVs l l'
  | _, _ => []
mutual
def pAV : AV → AV → List (Nat × Nat)
  | .c x, .c y => pCV x y
  | .agg l, .agg l' => pCVs l l'
  | .tup l, .tup l' => pAVs l l'
  | _, _ => []
def pAVs : List AV → List AV → List (Nat × Nat)
  | x :: l, y :: l' => pAV x y ++ pAVs l l'
  | _, _ => []
end
def pOb : Option Ob → Option Ob → List (Nat × Nat)
  | some (.box l), some (.box l') => pCVs l l'
  | some (.row _ _ _ S), some (.row _ _ _ S') => S.map fun n => (n, S'.headD 0)
  | _, _ => []
def pObs (σ τ : St) : List (Nat × Nat) → List (Nat × Nat)
  | [] => []
  | (n, m) :: l => pOb (σ.look n) (τ.look m) ++ pObs σ τ l
def swaps : List (Nat × Nat) → List (Nat × Nat)
  | [] => []
  | (a, b) :: l => (b, a) :: swaps l
def fsts : List (Nat × Nat) → List Nat
  | [] => []
  | (a, _) :: l => a :: fsts l
def ioP : List (Nat × Ob) → List (Nat × Nat)
  | [] => []
  | p :: l => if 30 ≤ p.1 ∧ p.1 < 46 then (p.1, p.1) :: ioP l else ioP l
def prs (σ τ : St) : List (Nat × Nat) := (ioP τ.ob ++ pAVs σ.tm τ.tm) ++ pObs σ τ (ioP τ.ob ++ pAVs σ.tm τ.tm) ++ pObs σ τ (pObs σ τ (ioP τ.ob ++ pAVs σ.tm τ.tm))
/-- The state, as far as τ speaks of it, under τ's names. -/
def St.to (σ τ : St) : St := (σ.keep (liveAt 0 τ.tm) (fsts (prs σ τ))).ren (prs σ τ)
def St.toOk (σ τ : St) : Bool := (σ.keep (liveAt 0 τ.tm) (fsts (prs σ τ))).renOk (prs σ τ) (swaps (prs σ τ))
/-- The second object tells no more than the first. -/
def leOb : Option Ob → Ob → Prop
  | some (.tree e t xs h), .row e' t' ys S => e = e' ∧ t = t' ∧ xs = [] ∧ ys = []
  | some (.tree e t xs h), .tree e' t' ys h' => Ob.tree e t xs h = .tree e' t' ys h'
  | some (.tree _ _ _ _), .box _ => False
  | some (.row e t xs S), .tree e' t' ys h => e = e' ∧ t = t' ∧ xs = [] ∧ ys = []
  | some (.row e t xs S), .row e' t' ys S' => Ob.row e t xs S = .row e' t' ys S'
  | some (.row _ _ _ _), .box _ => False
  | some (.box l), .box l' => l = l'
  | some (.box _), .row _ _ _ _ => False
  | some (.box _), .tree _ _ _ _ => False
  | none, _ => False
theorem leOb_ok {R : Rz} {w : World} {n : Nat} {o o' : Ob} (h : OR R w n o) (k : leOb (some o) o') : OR R w n o' := by
  cases o with
  | box l =>
    cases o' with
    | box l' => simp only [leOb] at k; subst k; exact h
    | row e t xs S => exact k.elim
    | tree e t xs hh => exact k.elim
  | row e t xs S =>
    cases o' with
    | box l' => exact k.elim
    | row e' t' ys S' => simp only [leOb] at k; rw [← k]; exact h
    | tree e' t' ys hh =>
      obtain ⟨rfl, rfl, rfl, rfl⟩ := k
      rcases h with ⟨h1, h2⟩ | ⟨cap, cur, h1, h2, h3, h4, h5, h6, h7⟩
      · exact .inl ⟨h1, rfl⟩
      · exact .inr ⟨cap, cur, h1, h2, h3, h4, h5, h6, fun i hi => by simp at hi, fun c b l k hc => by simp at hc⟩
  | tree e t xs hh =>
    cases o' with
    | box l' => exact k.elim
    | tree e' t' ys S' => simp only [leOb] at k; rw [← k]; exact h
    | row e' t' ys S =>
      obtain ⟨rfl, rfl, rfl, rfl⟩ := k
      rcases h with ⟨h1, h2⟩ | ⟨cap, cur, h1, h2, h3, h4, h5, h6, h7, h8⟩
      · exact .inl ⟨h1, rfl⟩
      · exact .inr ⟨cap, cur, h1, h2, h3, h4, h5, h6, fun i hi => by simp at hi⟩
def obsIn : List (Nat × Ob) → List (Nat × Ob) → Prop
  | [], _ => True
  | p :: l, ob => leOb (lookOb p.1 ob) p.2 ∧ obsIn l ob
theorem obsIn_ok {R : Rz} {w : World} {l ob : List (Nat × Ob)} (hob : obsOk R w ob) (h : obsIn l ob) : obsOk R w l := by
  induction l with
  | nil => intro p hp; cases hp
  | cons q l ih =>
    intro p hp
    rcases List.mem_cons.1 hp with rfl | hp
    · have h1 := h.1
      cases hq : lookOb p.1 ob with
      | none => rw [hq] at h1; exact h1.elim
      | some o => rw [hq] at h1; exact leOb_ok (hob (p.1, o) (lookOb_mem hq)) h1
    · exact ih h.2 p hp
theorem Wk_to {σ τ : St} (h : σ.toOk τ = true) (h2 : (σ.to τ).tm = τ.tm ∧ obsIn τ.ob (σ.to τ).ob) : Wk σ τ := by
  refine (Wk_keep σ (liveAt 0 τ.tm) (fsts (prs σ τ))).trans ((Wk_ren _ (prs σ τ) (swaps (prs σ τ)) h).trans ?_)
  intro R0 w0 R a w hs
  refine ⟨R, ?_, ?_, obsIn_ok hs.ob h2.2, hs.os, hs.tape, hs.output, hs.grow, hs.keep, hs.pl, hs.defers⟩
  · rw [← h2.1]; exact hs.size
  · rw [← h2.1]; exact hs.tm
/-- What a loop's round has to leave. -/
theorem loop_next {ι : Type} {I : ι → St} {μ : ι → Nat} {i : ι} {σ : St} (j : ι) (h : σ.toOk (I j) = true) (h2 : (σ.to (I j)).tm = (I j).tm ∧ obsIn (I j).ob (σ.to (I j)).ob) (hm : μ j < μ i) : ∃ j, Wk σ (I j) ∧ μ j < μ i :=
  ⟨j, Wk_to h h2, hm⟩
/-- Nothing, as a row or a tree of the call's own: at cell k of the variable n, or in slot i. -/
def nilC (k m : Nat) : Ob → Ob
  | .box l => match l[k]? with
    | some (.sc (.slice none 0 0)) => .box (l.set k (.ow m))
    | _ => .box l
  | .row e t xs S => .row e t xs S
  | .tree e t xs h => .tree e t xs h
def nilObs (n k m : Nat) : List (Nat × Ob) → List (Nat × Ob)
  | [] => []
  | p :: l => (if p.1 = n then (p.1, nilC k m p.2) else p) :: nilObs n k m l
def nilA (m : Nat) : AV → AV
  | .c (.sc (.slice none 0 0)) => .c (.ow m)
  | x => x
def nilOb (e : TypeId) (t : Ty) : Ob := match t.flat with
  | true => .row e t [] []
  | false => .tree e t [] none
def St.nilBox (σ : St) (n k m : Nat) (e : TypeId) (t : Ty) : St := ⟨AV.killL [] [m] σ.tm, (m, nilOb e t) :: nilObs n k m (killObs [] [m] σ.ob)⟩
def St.nilSlot (σ : St) (i m : Nat) (e : TypeId) (t : Ty) : St := ⟨(AV.killL [] [m] σ.tm).set i (nilA m ((AV.killL [] [m] σ.tm).getD i (.c .bot))), (m, nilOb e t) :: killObs [] [m] σ.ob⟩
def Rz.nil (R : Rz) (m : Nat) : Rz := { R with hd := fun x => if x = m then .slice none 0 0 else R.hd x }
theorem nil_base {R0 R : Rz} {w0 w : World} {σ : St} {a : Act} (hs : Sim R0 w0 R σ a w) {m : Nat} (hm : 100 ≤ m) (e : TypeId) (t : Ty) : Sim R0 w0 (R.nil m) ⟨AV.killL [] [m] σ.tm, (m, nilOb e t) :: killObs [] [m] σ.ob⟩ a w := by
  have hf : FR [] [m] R w (R.nil m) w := by
    refine ⟨rfl, rfl, rfl, Nat.le_refl _, fun b _ _ => ⟨rfl, rfl⟩, fun n hn => ?_, fun n hn => ?_⟩
    · simp only [List.mem_singleton] at hn
      simp [Rz.nil, hn]
    · have : n ≠ m := by omega
      simp [Rz.nil, this]
  have hv := VRt.kill hs.tm hf (by simp)
  refine ⟨?_, hv, fun p hp => ?_, hs.os, hs.tape, hs.output, hs.grow, hs.keep, fun n k1 k2 => ⟨(hf.lo n (by omega)).1.trans (hs.pl n k1 k2).1, (hf.lo n (by omega)).2.trans (hs.pl n k1 k2).2⟩, hs.defers⟩
  · have := hv.length; simp only; rw [← this]; simp
  · rcases List.mem_cons.1 hp with rfl | hp
    · simp only [nilOb]
      have : (R.nil m).hd m = .slice none 0 0 := by simp [Rz.nil]
      split
      · exact .inl ⟨this, rfl⟩
      · exact .inl ⟨this, rfl⟩
    · exact hs.ob.kill hf (by simp) p hp
theorem Wk_nilBox (σ : St) (n k m : Nat) (e : TypeId) (t : Ty) (hm : 100 ≤ m) : Wk σ (σ.nilBox n k m e t) := fun R0 w0 R a w hs => by
  have h := nil_base hs hm e t
  have hh : (R.nil m).hd m = .slice none 0 0 := by simp [Rz.nil]
  have hC : ∀ p o, OR (R.nil m) w p o → OR (R.nil m) w p (nilC k m o) := by
    intro p o ho
    cases o with
    | box l =>
      simp only [nilC]
      split
      · rename_i hl
        obtain ⟨us, T, h1, h2, h3⟩ := ho
        refine ⟨us, T, h1, h2, ?_⟩
        obtain ⟨u, hu, hv⟩ := h3.get k hl
        have hv : u = .slice none 0 0 := hv
        have := h3.set k (c := .ow m) (u := u) (by show u = _; rw [hh]; exact hv)
        have e2 : us.toList.set k u = us.toList := by
          apply List.ext_getElem?
          intro i
          rw [List.getElem?_set]
          split
          · rename_i e; subst e
            split
            · exact hu.symm
            · rename_i hl'; rw [List.getElem?_eq_none (by omega)]
          · rfl
        rwa [e2] at this
      · exact ho
    | row e t xs S => exact ho
    | tree e t xs h => exact ho
  have hN : ∀ l, obsOk (R.nil m) w l → obsOk (R.nil m) w (nilObs n k m l) := by
    intro l
    induction l with
    | nil => intro _ p hp; cases hp
    | cons q l ih =>
      intro hl p hp
      simp only [nilObs, List.mem_cons] at hp
      rcases hp with rfl | hp
      · split
        · exact hC _ _ (hl q List.mem_cons_self)
        · exact hl q List.mem_cons_self
      · exact ih (fun p hp => hl p (List.mem_cons_of_mem _ hp)) p hp
  refine ⟨R.nil m, h.size, h.tm, fun p hp => ?_, h.os, h.tape, h.output, h.grow, h.keep, h.pl, h.defers⟩
  rcases List.mem_cons.1 hp with rfl | hp
  · exact h.ob _ List.mem_cons_self
  · exact hN _ (fun p hp => h.ob p (List.mem_cons_of_mem _ hp)) p hp
theorem Wk_nilSlot (σ : St) (i m : Nat) (e : TypeId) (t : Ty) (hm : 100 ≤ m) : Wk σ (σ.nilSlot i m e t) := fun R0 w0 R a w hs => by
  have h := nil_base hs hm e t
  have hh : (R.nil m).hd m = .slice none 0 0 := by simp [Rz.nil]
  refine ⟨R.nil m, by simp only [St.nilSlot, List.length_set]; exact h.size, ?_, h.ob, h.os, h.tape, h.output, h.grow, h.keep, h.pl, h.defers⟩
  simp only [St.nilSlot]
  have hg := h.get i
  simp only [St.get] at hg
  have key : VR (R.nil m) w (nilA m ((AV.killL [] [m] σ.tm).getD i (.c .bot))) (a.tmps.getD i undef) := by
    rw [List.getD_eq_getElem?_getD]
    generalize ((AV.killL [] [m] σ.tm)[i]?).getD (.c .bot) = x at *
    unfold nilA
    split
    · simp only [VR, VRc] at hg ⊢; rw [hh]; exact hg
    · exact hg
  have := h.tm.set i key
  have e2 : a.tmps.toList.set i (a.tmps.getD i undef) = a.tmps.toList := by
    apply List.ext_getElem?
    intro j
    rw [List.getElem?_set]
    split
    · rename_i e; subst e
      split
      · rename_i hl
        simp only [Array.length_toList] at hl
        simp [Array.getD_eq_getD_getElem?, hl]
      · rename_i hl'; rw [List.getElem?_eq_none (by omega)]
    · rfl
  rwa [e2] at this
/-- The state in which a body ends gives the result r and the objects o. -/
def tupv : List AV → AV
  | [] => .tup []
  | [v] => v
  | v :: u :: l => .tup (v :: u :: l)
def FinOkG (σ τ : St) : Prop := σ.toOk τ = true
theorem finOkG_mk {σ τ : St} (h : σ.toOk τ = true) : FinOkG σ τ := h
def FinG (P : Program) (results : List ResultVar) (r : AV) (o : List (Nat × Ob)) (σ : St) : Prop :=
  match resVs P σ results with
  | some (c, vs) => c ∧ FinOkG (St.mk [tupv vs] σ.ob) ⟨[r], o⟩ ∧ ((St.mk [tupv vs] σ.ob).to ⟨[r], o⟩).tm = [r] ∧ obsIn o ((St.mk [tupv vs] σ.ob).to ⟨[r], o⟩).ob
  | none => False
def RetG (P : Program) (results : List ResultVar) (r : AV) (o : List (Nat × Ob)) : Exit → St → Prop
  | .normal, σ | .ret, σ => FinG P results r o σ
  | _, _ => False
def St.initG (n : Nat) (l : List AV) (o : List (Nat × Ob)) : St := ⟨l ++ List.replicate (n - l.length) (.c .bot), o⟩
def flensOk : (fs : List GF) → fdens fs → Prop
  | [], _ => True
  | .rd t :: l, x => t.lenOk x.1 ∧ flensOk l x.2
  | .ow _ :: l, x => flensOk l x.2
def GP.lenOk : (p : GP) → p.den → Prop
  | .val t, x => t.lenOk x
  | .ptr t, x => t.lenOk x
  | .one t, x => t.lenOk x
  | .po _, _ => True
  | .ow _, _ => True
  | .ag fs, x => flensOk fs x
def glensOk : (ps : List GP) → gdens ps → Prop
  | [], _ => True
  | p :: l, x => p.lenOk x.1 ∧ glensOk l x.2
def GO.lenOk : (o : GO) → o.den → Prop
  | .box fs, x => flensOk fs x
  | .row _ t, xs => xs.length ≤ 9223372036854775807
  | .tree _ t, xs => xs.length ≤ 9223372036854775807 ∧ ∀ x ∈ xs, t.lenOk x
def olensOk : (os : List GO) → odens os → Prop
  | [], _ => True
  | p :: l, x => p.lenOk x.1 ∧ olensOk l x.2
theorem VRs.split {R : Rz} {w : World} {l1 l2 : List CV} {us : List Value} : VRs R w (l1 ++ l2) us → ∃ u1 u2, us = u1 ++ u2 ∧ VRs R w l1 u1 ∧ VRs R w l2 u2 := by
  induction l1 generalizing us with
  | nil => intro h; exact ⟨[], us, rfl, rfl, h⟩
  | cons c l1 ih =>
    intro h
    obtain ⟨u, us', rfl, h3, h4⟩ := h
    obtain ⟨u1, u2, rfl, h5, h6⟩ := ih h4
    exact ⟨u :: u1, u2, rfl, ⟨u, u1, rfl, h3, h5⟩, h6⟩
theorem flens_ok {R : Rz} {w : World} : ∀ {fs : List GF} {x : fdens fs} {us : List Value}, VRs R w (gfs fs x) us → flensOk fs x := by
  intro fs
  induction fs with
  | nil => intro x us _; trivial
  | cons p fs ih =>
    intro x us h
    cases p with
    | rd t =>
      simp only [gfs] at h
      obtain ⟨u1, u2, rfl, h1, h2⟩ := h.split
      exact ⟨h1.lenOk, ih h2⟩
    | ow k =>
      simp only [gfs] at h
      obtain ⟨u, us', rfl, _, h2⟩ := h
      exact ih (x := x.2) h2
theorem glens_ok {R : Rz} {w : World} : ∀ {ps : List GP} {x : gdens ps} {us : List Value}, VRt R w (gavs ps x) us → glensOk ps x := by
  intro ps
  induction ps with
  | nil => intro x us _; trivial
  | cons p ps ih =>
    intro x us h
    simp only [gavs, VRt] at h
    obtain ⟨u, us', rfl, h1, h2⟩ := h
    refine ⟨?_, ih h2⟩
    cases p with
    | val t => exact h1.lenOk
    | ptr t =>
      simp only [GP.av, VR] at h1
      obtain ⟨b, o, us, _, _, _, _, h3⟩ := h1
      exact h3.lenOk
    | one t =>
      simp only [GP.av, VR] at h1
      obtain ⟨us, rfl, h3⟩ := h1
      exact h3.lenOk
    | po k => trivial
    | ow k => trivial
    | ag fs =>
      simp only [GP.av, VR] at h1
      obtain ⟨us, rfl, h3⟩ := h1
      exact flens_ok h3
theorem olens_ok {R : Rz} {w : World} : ∀ {os : List GO} {i : Nat} {x : odens os}, obsOk R w (gobs i os x) → olensOk os x := by
  intro os
  induction os with
  | nil => intro i x _; trivial
  | cons o os ih =>
    intro i x h
    refine ⟨?_, ih (i := i + 1) fun p hp => h p (by simp only [gobs]; exact List.mem_cons_of_mem _ hp)⟩
    have h1 := h (ioN i, o.ob x.1) (by simp [gobs])
    cases o with
    | box fs =>
      obtain ⟨us, T, _, _, h3⟩ := h1
      exact flens_ok h3
    | row e t =>
      rcases h1 with ⟨_, h2⟩ | ⟨cap, cur, _, _, _, h4, h5, _⟩
      · show x.1.length ≤ _; rw [h2]; simp
      · show x.1.length ≤ _; unfold maxLen at h5; omega
    | tree e t =>
      rcases h1 with ⟨_, h2⟩ | ⟨cap, cur, _, _, _, h4, h5, _, h7, _⟩
      · show x.1.length ≤ _ ∧ _; rw [h2]; simp
      · refine ⟨by show x.1.length ≤ _; unfold maxLen at h5; omega, fun y hy => ?_⟩
        obtain ⟨i, hi, rfl⟩ := List.mem_iff_getElem.1 hy
        exact (h7 i hi (by simp [inH])).rd.lenOk
theorem gen_of_body {P : Program} {f : FuncId} {fn : Func} {code : Code} {k : GCon} (hf : P.funcs[f]? = some fn) (hb : fn.body = some code)
    (h : ∀ x, k.c x → glensOk k.ps x.1 → olensOk k.os x.2 → AWP P code (St.initG fn.ntmps (gavs k.ps x.1) (gobs 0 k.os x.2)) (RetG P fn.results.toList (k.r x) (k.o x))) : GenT P f k := by
  intro x hc R w vs hv ho
  refine calls_of_wp hf hb ?_
  have hl := hv.length
  simp only [Array.length_toList] at hl
  have hs : Sim R w R (St.initG fn.ntmps (gavs k.ps x.1) (gobs 0 k.os x.2)) { tmps := vs ++ Array.replicate (fn.ntmps - vs.size) undef, defers := [] } w := by
    refine ⟨by simp [St.initG, hl], ?_, ho, rfl, rfl, rfl, Nat.le_refl _, fun b _ _ => ⟨rfl, rfl⟩, fun _ _ _ => ⟨rfl, rfl⟩, rfl⟩
    simp only [St.initG, Array.toList_append, Array.toList_replicate]
    rw [hl]
    exact hv.append (VRt.bots _ _)
  refine wp_mono (h x hc (glens_ok hv) (olens_ok ho) R w R _ w hs) fun e a' w' ⟨R', σ', h1, h2⟩ => ?_
  have fin : FinG P fn.results.toList (k.r x) (k.o x) σ' → bodyPost P fn (fun e w' => ∃ v R', e = .returned v ∧ VR R' w' (k.r x) v ∧ obsOk R' w' (k.o x) ∧ Keeps R w R' w' ∧ ∀ n, 30 ≤ n → n < 46 → R'.hd n = R.hd n ∧ R'.bk n = R.bk n) .normal a' w' := fun hF => by
    unfold FinG at hF
    split at hF
    case h_2 => exact hF.elim
    rename_i c vs' e1
    obtain ⟨hc', g1, g2, g3⟩ := hF
    obtain ⟨us, q1, q2⟩ := resVs_ok h1 e1 hc'
    have hlen := q2.length
    have hres : ∃ v, (results fn a'.tmps).run P w' = .ok v w' ∧ VR R' w' (tupv vs') v := by
      refine ⟨if h : us.toArray.size = 1 then us.toArray[0] else .tuple us.toArray, ?_, ?_⟩
      · have e : results fn a'.tmps = (do let vs ← fn.results.mapM (resS a'); pure (if h : vs.size = 1 then vs[0] else .tuple vs)) := by
          unfold results
          congr 1
        rw [e, Sem.run_bind, Array.mapM_eq_mapM_toList, Sem.run_map, q1]
        rfl
      · match vs', us, hlen with
        | [], [], _ => simp only [tupv, VR]; exact ⟨#[], by simp, by simp [VRt]⟩
        | [p], [u], _ =>
          simp only [VRt] at q2
          obtain ⟨u', us', e, h5, _⟩ := q2
          cases e
          simpa [tupv] using h5
        | p :: q :: l, u :: u2 :: us, _ =>
          simp only [tupv, VR]
          exact ⟨_, by rw [dif_neg (by simp)], by simpa using q2⟩
    obtain ⟨v, r1, r2⟩ := hres
    have hs2 : Sim R w R' ⟨[tupv vs'], σ'.ob⟩ { tmps := #[v], defers := [] } w' :=
      ⟨rfl, by simp only [VRt]; exact ⟨v, [], rfl, r2, rfl⟩, h1.ob, h1.os, h1.tape, h1.output, h1.grow, h1.keep, h1.pl, rfl⟩
    obtain ⟨R2, hs3⟩ := Wk_to (τ := ⟨[k.r x], k.o x⟩) g1 ⟨g2, g3⟩ R w R' _ w' hs2
    have hv3 := hs3.tm
    simp only [VRt] at hv3
    obtain ⟨u', us', e, h5, _⟩ := hv3
    cases e
    exact ⟨h1.defers, v, r1, v, R2, rfl, h5, hs3.ob, ⟨hs3.os, hs3.tape, hs3.output, hs3.grow, hs3.keep⟩, hs3.pl⟩
  cases e <;> first | exact fin h2 | exact h2.elim
/-- The set of the walk. -/
theorem vc_true (p : Prop) (h : p) : p := h
attribute [go_sem] aseq aop pureRes St.ev St.get St.fin St.look lookOb thenA aLit aIdx aLoad aStore aBin abin eqCv aUn aPick aLen aApp aMake
attribute [go_sem] appC treeOf aFunc capsOf elT elemsT updRow cellsTr okH bckN CV.gr AV.gr AV.grL Ob.gr obsGr nodupB bindsOk bindL aCallP aCallG aCallS isSub noNm aCallA gdecs fdecs odec odecs leOb nilC nilObs nilA nilOb St.nilBox St.nilSlot tupv FinG RetG St.initG ioP ioN gavs GP.av gfs GO.ob gobs Ty.ok2
attribute [go_sem] aSlice aField aPart aExt aNil aBox aAlloc aBuild aCall aMm aConv lenOf rowOf srcOf elSrc place cellsA cvOne elems rds
attribute [go_sem] castD_eq castT_eq uni nm cellsOf moved isPtr splice newBox Ty.w Ty.dflt Value.oneCell' killObs AV.killL AV.kill CV.kill CV.hit CV.srcs CV.ids Ob.kill
attribute [go_sem] List.getElem?_cons_zero List.getElem?_cons_succ List.set_cons_zero List.set_cons_succ Option.getD_some List.isEmpty_nil List.isEmpty_cons Bool.and_self Bool.true_and Bool.and_true Bool.false_and Bool.and_false if_true if_false ite_true ite_false Bool.false_eq_true List.nil_append List.cons_append List.append_nil
attribute [go_sem] List.map_cons List.map_nil List.any_cons List.any_nil List.all_cons List.all_nil List.filter_cons List.filter_nil List.contains_cons List.contains_nil Bool.or_false Bool.false_or Bool.or_self true_and and_true and_self Option.some.injEq beq_self_eq_true BEq.rfl dite_true
attribute [go_sem] List.take_zero List.take_succ_cons List.drop_succ_cons List.drop_zero List.take_nil List.drop_nil List.length_cons List.length_nil decide_true decide_false Option.isSome_some Option.map_some List.range_zero not_true_eq_false not_false_eq_true Nat.zero_mul Nat.one_mul Nat.mul_one Nat.zero_add Nat.add_zero
attribute [go_sem] Option.getD_none ne_eq List.range_succ Bool.not_true Bool.not_false resVs resV finL finA finC Fin or_false false_or or_self true_or or_true false_and and_false RetQ inBlockA St.setb gval gnone St.to St.keep keepAt liveAt
attribute [go_sem] AV.isBot prs pAVs pAV pCV pCVs pObs pOb swaps fsts St.ren AV.renL AV.ren CV.ren Ob.ren renS ddp fL obsIn avs
attribute [go_sem] PK.av Ty.av decs decV decP outAll outL outA outC outO outOs outN nms Ty.flat Ty.rows rowsOf fillA partsOne asIx
attribute [go_sem] List.headD_cons List.headD_nil List.getElem?_toArray List.replicate_succ List.replicate_zero List.getElem?_nil AV.c.injEq CV.sc.injEq CV.rd.injEq CV.ow.injEq CV.po.injEq Value.int.injEq Value.bool.injEq Ob.row.injEq Ob.box.injEq Prod.mk.injEq List.cons.injEq heq_eq_eq List.flatMap_cons List.flatMap_nil
attribute [go_sem] bne_self_eq_false Function.comp_apply List.filterMap_cons_some List.filterMap_nil id_eq List.map_append Option.isSome_none
attribute [go_sem ↓] gcase_tt gcase_ff gcase_tf gcase_ft
attribute [go_sem] true_implies false_implies implies_true
end Go.Proofs.Ythglggjgjlmhlaa
