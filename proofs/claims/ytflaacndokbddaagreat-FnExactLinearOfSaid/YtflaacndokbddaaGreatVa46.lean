/-
  Texts of this claim, joined (part 46). No condition beyond those of the theorems.
-/
import Derived.Test.YtflaacndokbddaaGreatVa02
set_option linter.unusedSimpArgs false
set_option linter.unusedVariables false
namespace Go.Proofs.YtflaacndokbddaaGreat
open Go.RowKit
end Go.Proofs.YtflaacndokbddaaGreat
namespace Go.Proofs.YtflaacndokbddaaGreat
open Go.RowKit
def St.freeR (σ : St) (n : Nat) : St := match σ.look n with
 | some (.row e t xs []) => ⟨freeBL n e t xs σ.tm, freeBO n e t xs σ.ob⟩
 | _ => σ
theorem Wk_freeR (σ : St) (n : Nat) (hn : 5 < n) : Wk σ (σ.freeR n) := fun R0 w0 R a w hs => by
 unfold St.freeR
 split
 case h_2 => exact ⟨R, hs⟩
 rename_i e t xs he
 obtain ⟨R', hR'⟩ : ∃ R' : Rz, R' = { R with root := fun b => if R.root b = n then 0 else R.root b } := ⟨_, rfl⟩
 have hok : ∀ S b, okS R S b → okS R' S b := fun S b hb => by
  show R'.root b = 0 ∨ R'.root b ∈ S
  rw [hR']
  simp only
  split
  · exact .inl rfl
  · exact hb
 have hrt : ∀ b m, m ≠ n → R.root b = m → R'.root b = m := fun b m hm hb => by rw [hR']; simp [hb, hm]
 have hbk : ∀ m, R'.bk m = R.bk m := fun m => by rw [hR']
 have hhd : ∀ m, R'.hd m = R.hd m := fun m => by rw [hR']
 have hC : ∀ (c : CV) (u : Value), VRc R w c u → VRc R' w (c.kill [] [n]) u := fun c u h => by
  unfold CV.kill
  split
  · trivial
  · rename_i hh
    simp only [CV.hit, Bool.or_eq_true, not_or, Bool.not_eq_true] at hh
    have hI := any_false hh.2
    cases c with
    | sc v => exact h
    | rd S e t xs => exact Rd.mono h (hok S)
    | pt S t x k =>
      obtain ⟨b, q, us, rfl, h1, h2, h3, h4⟩ := h
      exact ⟨b, q, us, rfl, hok S b h1, h2, h3, h4.mono (hok S)⟩
    | ow m => show u = _; rw [hhd]; exact h
    | po m k => show u = .pointer (some ⟨_, k, none⟩); rw [hbk]; exact h
    | pe m i wd k => show u = .pointer (some ⟨_, i * wd + k, none⟩); rw [hbk]; exact h
    | sub m i wd o e t xs =>
      have hm : m ≠ n := by have := hI m (by simp [CV.ids]); simpa using this
      obtain ⟨h1, h2, h3⟩ := h
      refine ⟨by rw [hbk]; exact h1, by rw [hbk]; exact hrt _ _ hm h2, ?_⟩
      rcases h3 with h3 | ⟨b, cap, cur, k1, k2, k3, k4, k5, k6, k7⟩
      · exact .inl h3
      · exact .inr ⟨b, cap, cur, k1, hrt _ _ hm k2, k3, k4, k5, k6, fun j hj => (k7 j hj).mono (hok [])⟩
    | pi m i wd o j t x k =>
      have hm : m ≠ n := by have := hI m (by simp [CV.ids]); simpa using this
      obtain ⟨b, l, cap, us, h1, h2, h3, h4, h5, h6, h7⟩ := h
      exact ⟨b, l, cap, us, by rw [hbk]; exact h1, by rw [hbk]; exact hrt _ _ hm h2, hrt _ _ hm h3, h4, h5, h6, h7.mono (hok [m])⟩
    | fn f l =>
      have h : u = _ := h
      show u = _
      rw [h]
      congr 2
      exact List.map_congr_left fun m _ => by rw [hbk]
    | bot => trivial
 have hCs : ∀ (l : List CV) (us : List Value), VRs R w l us → VRs R' w (l.map (CV.kill [] [n])) us := by
  intro l
  induction l with
  | nil => intro us h; exact h
  | cons c l ih => intro us h; obtain ⟨u, us', rfl, h1, h2⟩ := h; exact ⟨u, us', rfl, hC c u h1, ih us' h2⟩
 have hA : ∀ (x : AV) (u : Value), VR R w x u → VR R' w (x.kill [] [n]) u := by
  intro x
  refine AV.rec (motive_1 := fun x => ∀ u, VR R w x u → VR R' w (x.kill [] [n]) u) (motive_2 := fun l => ∀ us, VRt R w l us → VRt R' w (AV.killL [] [n] l) us) ?_ ?_ ?_ ?_ ?_ x
  · intro c u h; simp only [VR, AV.kill] at h ⊢; exact hC c u h
  · intro l u h; simp only [VR, AV.kill] at h ⊢; obtain ⟨us, rfl, h1⟩ := h; exact ⟨us, rfl, hCs l _ h1⟩
  · intro l ih u h; simp only [VR, AV.kill] at h ⊢; obtain ⟨us, rfl, h1⟩ := h; exact ⟨us, rfl, ih _ h1⟩
  · intro us h; simpa only [VRt, AV.killL] using h
  · intro x l h1 h2 us h; simp only [VRt, AV.killL] at h ⊢; obtain ⟨u, us', rfl, h3, h4⟩ := h; exact ⟨u, us', rfl, h1 u h3, h2 us' h4⟩
 have hok2 : ∀ b, okS R [n] b → okS R' [] b := fun b hb => by
  left
  rw [hR']
  simp only
  rcases hb with hb | hb
  · split <;> simp_all
  · simp at hb; rw [if_pos hb]
 have hrow : Rd (okS R' []) w (.row e t) [R.hd n] xs := by
  have h1 := row_reads (p := .ow n) hs (u := R.hd n) rfl (e := e) (t := t) (xs := xs) (by simp [rowOf, he])
  have h2 : srcOf σ (.ow n) = [n] := by simp [srcOf, he]
  rw [h2] at h1
  exact h1.mono hok2
 have hD : ∀ (c : CV) (u : Value), VRc R w c u → VRc R' w (freeCV n e t xs c) u := fun c u h => by
  unfold freeCV
  split
  · rename_i m
    split
    · rename_i e1
      subst e1
      have h : u = _ := h
      show Rd _ _ _ _ _
      rw [h]; exact hrow
    · show u = _; rw [hhd]; exact h
  · exact hC _ _ h
 have hDs : ∀ (l : List CV) (us : List Value), VRs R w l us → VRs R' w (l.map (freeCV n e t xs)) us := by
  intro l
  induction l with
  | nil => intro us h; exact h
  | cons c l ih => intro us h; obtain ⟨u, us', rfl, h1, h2⟩ := h; exact ⟨u, us', rfl, hD c u h1, ih us' h2⟩
 have hL : ∀ (l : List AV) (us : List Value), VRt R w l us → VRt R' w (freeBL n e t xs l) us := by
  intro l
  induction l with
  | nil => intro us h; simpa only [VRt, freeBL] using h
  | cons x l ih =>
    intro us h
    simp only [VRt, freeBL] at h ⊢
    obtain ⟨u, us', rfl, h1, h2⟩ := h
    refine ⟨u, us', rfl, ?_, ih us' h2⟩
    unfold freeBA
    split
    · simp only [VR] at h1 ⊢; exact hD _ _ h1
    · simp only [VR] at h1 ⊢
      obtain ⟨vs, rfl, h3⟩ := h1
      exact ⟨vs, rfl, hDs _ _ h3⟩
    · exact hA _ _ h1
 have hO : ∀ l, obsOk R w l → obsOk R' w (freeBO n e t xs l) := by
  intro l
  induction l with
  | nil => intro _ p hp; simp [freeBO] at hp
  | cons q l ih =>
    intro hl p hp
    have h1 := hl q List.mem_cons_self
    have ih' := ih (fun p hp => hl p (List.mem_cons_of_mem _ hp))
    simp only [freeBO] at hp
    split at hp
    · exact ih' p hp
    · rename_i hq
      obtain ⟨m, o⟩ := q
      simp only at hq h1 hp
      cases o with
      | box cs =>
        simp only [List.mem_cons] at hp
        rcases hp with rfl | hp
        · obtain ⟨us, T, g1, g2, g3⟩ := h1
          exact ⟨us, T, by simp only; rw [hbk]; exact g1, by simp only; rw [hbk]; exact hrt _ _ hq g2, hDs _ _ g3⟩
        · exact ih' p hp
      | row e' t' xs' S' =>
        simp only [List.mem_cons] at hp
        rcases hp with rfl | hp
        · rcases h1 with ⟨g1, g2⟩ | ⟨cap, cur, g1, g2, g3, g4, g5, g6, g7⟩
          · exact .inl ⟨by simp only; rw [hhd]; exact g1, g2⟩
          · exact .inr ⟨cap, cur, by simp only; rw [hhd, hbk]; exact g1, by simp only; rw [hbk]; exact hrt _ _ hq g2, by simp only; rw [hbk]; exact g3, g4, g5, g6, fun i hi => (g7 i hi).mono (hok S')⟩
        · exact ih' p hp
      | tree e' t' xs' h' =>
        simp only [List.mem_cons] at hp
        rcases hp with rfl | hp
        · rcases h1 with ⟨g1, g2⟩ | ⟨cap, cur, g1, g2, g3, g4, g5, g6, g7, g8⟩
          · exact .inl ⟨by simp only; rw [hhd]; exact g1, g2⟩
          · exact .inr ⟨cap, cur, by simp only; rw [hhd, hbk]; exact g1, by simp only; rw [hbk]; exact hrt _ _ hq g2, by simp only; rw [hbk]; exact g3, g4, g5, g6, fun i hi hh => (g7 i hi hh).mv fun c b l k _ hr hlt => ⟨rfl, hrt _ _ hq hr⟩, by simp only; rw [hbk]; exact g8⟩
        · exact ih' p hp
 have hv := hL _ _ hs.tm
 refine ⟨R', ?_, hv, hO _ hs.ob, hs.os, hs.tape, hs.output, hs.grow, fun b hb hr => ?_, fun m h1 h2 => ⟨(hhd m).trans (hs.pl m h1 h2).1, (hbk m).trans (hs.pl m h1 h2).2⟩, hs.defers⟩
 · have := hv.length; simp only; rw [← this]; simp
 · obtain ⟨k1, k2⟩ := hs.keep b hb hr
   refine ⟨k1, ?_⟩
   rw [hR']
   simp only
   rw [if_neg (by rw [k2]; omega)]
   exact k2
attribute [go_sem] St.freeR
end Go.Proofs.YtflaacndokbddaaGreat
