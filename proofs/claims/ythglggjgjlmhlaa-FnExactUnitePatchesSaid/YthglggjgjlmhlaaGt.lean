/-
  The logic of trees: a slice of a tree's element becomes a row of its own.
-/
import Derived.Test.YthglggjgjlmhlaaGn
namespace Go.Proofs.Ythglggjgjlmhlaa
open Go.RowKit
set_option linter.unusedSimpArgs false
set_option linter.unusedVariables false

def holeO : Ob → Ob
  | .box l => .box l
  | .row e t xs S => .row e t xs S
  | .tree e t xs h => .tree e t xs (match h with | none => some (0, 0) | some p => some p)
def holeObs (n : Nat) : List (Nat × Ob) → List (Nat × Ob)
  | [] => []
  | p :: l => (if p.1 = n then (p.1, holeO p.2) else p) :: holeObs n l
def St.hole (σ : St) (n : Nat) : St := ⟨σ.tm, holeObs n σ.ob⟩
theorem Wk_hole (σ : St) (n : Nat) : Wk σ (σ.hole n) := fun R0 w0 R a w hs => by
  have hC : ∀ p o, OR R w p o → OR R w p (holeO o) := by
    intro p o ho
    cases o with
    | box l => exact ho
    | row e t xs S => exact ho
    | tree e t xs h =>
      cases h with
      | some q => exact ho
      | none =>
        rcases ho with h1 | ⟨cap, cur, h1, h2, h3, h4, h5, h6, h7, h8⟩
        · exact .inl h1
        · exact .inr ⟨cap, cur, h1, h2, h3, h4, h5, h6, fun i hi _ => h7 i hi (by simp [inH]), fun c b l k hc _ hcur => by
            obtain ⟨q1, q2⟩ := h8 c b l k hc (by simp [inH]) hcur
            exact ⟨q1, fun c' l' k' hc' _ hcur' => q2 c' l' k' hc' (by simp [inH]) hcur'⟩⟩
  have hN : ∀ l, obsOk R w l → obsOk R w (holeObs n l) := by
    intro l
    induction l with
    | nil => intro _ p hp; cases hp
    | cons q l ih =>
      intro hl p hp
      simp only [holeObs, List.mem_cons] at hp
      rcases hp with rfl | hp
      · split
        · exact hC _ _ (hl q List.mem_cons_self)
        · exact hl q List.mem_cons_self
      · exact ih (fun p hp => hl p (List.mem_cons_of_mem _ hp)) p hp
  exact ⟨R, hs.size, hs.tm, hN _ hs.ob, hs.os, hs.tape, hs.output, hs.grow, hs.keep, hs.pl, hs.defers⟩
def takeC (k m : Nat) : Ob → Ob
  | .box l => .box (l.set k (.ow m))
  | .row e t xs S => .row e t xs S
  | .tree e t xs h => .tree e t xs h
def takeObs (n k m : Nat) : List (Nat × Ob) → List (Nat × Ob)
  | [] => []
  | p :: l => (if p.1 = n then (p.1, takeC k m p.2) else p) :: takeObs n k m l
/-- Cell k of the variable bx holds a slice of a tree's element, the first behind the hole: it becomes the row m. -/
def St.takeS (σ : St) (bx k m : Nat) : St :=
  match σ.look bx with
  | some (.box l) => match l[k]? with
    | some (.sub n i wd o e t xs) => match σ.look n with
      | some (.tree e2 T XS (some h)) => ⟨AV.killL [n] [m] σ.tm, (m, .row e t xs []) :: (n, .tree e2 T XS (some (0, i + 1))) :: takeObs bx k m (killObs [n] [m] σ.ob)⟩
      | _ => σ
    | _ => σ
  | _ => σ
def St.takeC (σ : St) (bx k m : Nat) : Prop :=
  match σ.look bx with
  | some (.box l) => match l[k]? with
    | some (.sub n i wd o e t xs) => match σ.look n with
      | some (.tree e2 T XS (some h)) => h.1 = 0 ∧ h.2 = i ∧ i < XS.length ∧ wd = T.w ∧ o < T.w ∧ 5 < n ∧ n ≠ m ∧ bx ≠ n ∧ bx ≠ m ∧ 100 ≤ m
      | _ => False
    | _ => False
  | _ => False
theorem Wk_take (σ : St) (bx k m : Nat) (hcd : σ.takeC bx k m) : Wk σ (σ.takeS bx k m) := fun R0 w0 R a w hs => by
  unfold St.takeC at hcd
  unfold St.takeS
  split at hcd
  case h_2 => exact hcd.elim
  rename_i l hb
  split at hcd
  case h_2 => exact hcd.elim
  rename_i n i wd o e t xs hl
  split at hcd
  case h_2 => exact hcd.elim
  rename_i e2 T XS h hn
  obtain ⟨ha, hi', hi, rfl, ho, hn5, hnm, hbn, hbm, hm⟩ := hcd
  obtain ⟨p1, p2⟩ := h
  have ha : p1 = 0 := ha
  have hi' : p2 = i := hi'
  subst ha hi'
  simp only [hb, hl, hn]
  obtain ⟨us, Tb, b1, b2, b3⟩ := hs.look hb
  obtain ⟨u, hu, hv⟩ := b3.get k hl
  obtain ⟨g1, g2, g3⟩ : VRc R w (.sub n p2 T.w o e t xs) u := hv
  obtain ⟨R', hR'⟩ : ∃ R' : Rz, R' = ⟨fun x => if u.ownBlock = some x then m else R.root x, fun q => if q = m then u else R.hd q, fun q => if q = m then u.ownBlock.getD 0 else R.bk q⟩ := ⟨_, rfl⟩
  have hroot : ∀ b, u.ownBlock = some b → R.root b = n := fun b hb => by
    rcases g3 with ⟨h1, _⟩ | ⟨b', cap, cur, h1, h2, _⟩
    · rw [h1] at hb; cases hb
    · rw [h1] at hb; cases hb; exact h2
  have hne : ∀ b, R.root b ≠ n → R'.root b = R.root b := fun b hb => by
    rw [hR']; simp only
    rw [if_neg fun h => hb (hroot b h)]
  have ehm : R'.hd m = u := by rw [hR']; simp
  have ebm : R'.bk m = u.ownBlock.getD 0 := by rw [hR']; simp
  have ehn : ∀ q, q ≠ m → R'.hd q = R.hd q ∧ R'.bk q = R.bk q := fun q hq => by rw [hR']; simp [hq]
  have hf : FR [n] [m] R w R' w := ⟨rfl, rfl, rfl, Nat.le_refl _, fun b _ hb => ⟨rfl, hne b (by simpa using hb)⟩, fun q hq => ehn q (by simpa using hq), fun q hq => ehn q (by omega)⟩
  have h0 : 0 ∉ [n] := by simp; omega
  have hv' := VRt.kill hs.tm hf h0
  have hlen := hv'.length
  have hC : ∀ ob, OR R' w bx ob → OR R' w bx (takeC k m ob) := by
    intro ob h
    cases ob with
    | row e t xs S => exact h
    | tree e t xs h' => exact h
    | box l2 =>
      obtain ⟨us2, T2, q1, q2, q3⟩ := h
      rw [(ehn bx hbm).2, b1] at q1
      cases q1
      refine ⟨us, Tb, by rw [(ehn bx hbm).2]; exact b1, q2, ?_⟩
      have := q3.set k (c := .ow m) (u := u) (by show u = _; rw [ehm])
      have e2 : us.toList.set k u = us.toList := by
        apply List.ext_getElem?
        intro i
        rw [List.getElem?_set]
        split
        · rename_i e; subst e
          split
          · exact hu.symm
          · rename_i hl'; rw [List.getElem?_eq_none (by omega)]
        · rfl
      rwa [e2] at this
  have hN : ∀ l, obsOk R' w l → obsOk R' w (takeObs bx k m l) := by
    intro l
    induction l with
    | nil => intro _ p hp; cases hp
    | cons q l ih =>
      intro hl p hp
      simp only [takeObs, List.mem_cons] at hp
      rcases hp with rfl | hp
      · split
        · rename_i e; obtain ⟨q1, q2⟩ := q; simp only at e; subst e; exact hC _ (hl _ List.mem_cons_self)
        · exact hl q List.mem_cons_self
      · exact ih (fun p hp => hl p (List.mem_cons_of_mem _ hp)) p hp
  refine ⟨R', ?_, hv', fun p hp => ?_, hs.os, hs.tape, hs.output, hs.grow, fun b hb hr => ?_, fun q k1 k2 => ?_, hs.defers⟩
  · simp only; rw [← hlen]; simp
  · rcases List.mem_cons.1 hp with rfl | hp
    · -- the new row
      rcases g3 with ⟨h1, h2⟩ | ⟨b, cap, cur, h1, h2, h3, h4, h5, h6, h7⟩
      · exact .inl ⟨by rw [ehm]; exact h1, h2⟩
      · have eb : R'.bk m = b := by rw [ebm, h1]; rfl
        refine .inr ⟨cap, cur, by rw [ehm, eb]; exact h1, ?_, by rw [eb]; exact h3, h4, h5, h6, fun j hj => (h7 j hj).fr hf h0 (by simp)⟩
        rw [eb, hR']; simp [h1, Value.ownBlock]
    rcases List.mem_cons.1 hp with rfl | hp
    · -- the tree
      rcases hs.look hn with ⟨_, k2⟩ | ⟨cap, cur, k1, k2, k3, k4, k5, k6, k7, k8⟩
      · subst k2; simp at hi
      have hcur : cur.toList[p2 * T.w + o]? = some u := by simpa [World.cell?, k3] using g1
      have hdiv : (p2 * T.w + o) / T.w = p2 := by rw [Nat.mul_comm, Nat.mul_add_div (T.w_pos), Nat.div_eq_of_lt ho]; omega
      have hlt2 : p2 * T.w + o < XS.length * T.w := by
        have : (p2 + 1) * T.w ≤ XS.length * T.w := Nat.mul_le_mul_right _ hi
        rw [Nat.succ_mul] at this; omega
      have hnh : ¬ inH (some (0, p2)) ((p2 * T.w + o) / T.w) := by rw [hdiv]; simp [inH]
      have hbk : ∀ b, u.ownBlock = some b → b ≠ R.bk n ∧ ∀ c l' k', c < XS.length * T.w → ¬ inH (some (0, p2)) (c / T.w) → cur.toList[c]? = some (.slice (some ⟨b, 0, none⟩) l' k') → c = p2 * T.w + o := fun b hb => by
        rcases g3 with ⟨h1, _⟩ | ⟨b', cap', cur', h1, h2, _⟩
        · rw [h1] at hb; cases hb
        · rw [h1] at hb; cases hb
          rw [h1] at hcur
          obtain ⟨r1, r2⟩ := k8 _ b' _ _ hlt2 hnh hcur
          exact ⟨r1, r2⟩
      have e1 := ehn n hnm
      have hrb : R'.root (R.bk n) = n := by
        rw [hR']; simp only
        rw [if_neg fun h => (hbk _ h).1 rfl]; exact k2
      have wkH : ∀ j, ¬ inH (some (0, p2 + 1)) j → ¬ inH (some (0, p2)) j ∧ j ≠ p2 := fun j hj => by
        simp only [inH] at hj ⊢; omega
      refine .inr ⟨cap, cur, by rw [e1.1, e1.2]; exact k1, by rw [e1.2]; exact hrb, by rw [e1.2]; exact k3, k4, k5, k6, fun j hj hh => ?_, ?_⟩
      · obtain ⟨j1, j2⟩ := wkH j hh
        refine (k7 j hj j1).mv fun c b' l' q' hc' hr' hlt' => ⟨rfl, ?_⟩
        rw [hR']; simp only
        rw [if_neg, hr']
        intro hb
        have hcw : c < T.w := by have := (List.getElem?_eq_some_iff.1 hc').1; simp at this; omega
        rw [drop_take_get hcw] at hc'
        have hd : (j * T.w + c) / T.w = j := by rw [Nat.mul_comm, Nat.mul_add_div (T.w_pos), Nat.div_eq_of_lt hcw]; omega
        have := (hbk b' hb).2 (j * T.w + c) l' q' (by
          have : (j + 1) * T.w ≤ XS.length * T.w := Nat.mul_le_mul_right _ hj
          rw [Nat.succ_mul] at this; omega) (by rw [hd]; exact j1) hc'
        apply j2
        rw [← hd, this, hdiv]
      · intro c b' l' q' hc hh hcc
        rw [e1.2]
        obtain ⟨q1, q2⟩ := k8 c b' l' q' hc (wkH _ hh).1 hcc
        exact ⟨q1, fun c' l2 k2' hc2 hh2 hcc2 => q2 c' l2 k2' hc2 (wkH _ hh2).1 hcc2⟩
    · exact hN _ (hs.ob.kill hf h0) p hp
  · obtain ⟨r1, r2⟩ := hs.keep b hb hr
    exact ⟨r1, by rw [hne b (by rw [r2]; omega)]; exact r2⟩
  · obtain ⟨r1, r2⟩ := ehn q (by omega)
    rw [r1, r2]; exact hs.pl q k1 k2
theorem AWP_take {P : Program} {c : Code} {Q : Exit → St → Prop} {σ : St} (bx k m : Nat) (h : σ.takeC bx k m ∧ AWP P c (σ.takeS bx k m) Q) : AWP P c σ Q := AWP_wk (Wk_take σ bx k m h.1) h.2
attribute [go_sem] holeO holeObs St.hole takeC takeObs St.takeS St.takeC
end Go.Proofs.Ythglggjgjlmhlaa
