/-
  The logic of trees: a region whose order is drawn. Each operation is reckoned over what it waits for; then every order comes to the state that the text's order gives.
-/
import Derived.Test.YthglggjgjlmhlaaGm
import Derived.Orders
namespace Go.Proofs.Ythglggjgjlmhlaa
open Go.RowKit
set_option linter.unusedSimpArgs false
set_option linter.unusedVariables false

theorem any_app {S N N' : List Nat} : S.any (fun n => (N ++ N').contains n) = (S.any (fun n => N.contains n) || S.any (fun n => N'.contains n)) := by
  induction S with
  | nil => rfl
  | cons n S ih =>
    simp only [List.any_cons, ih, List.contains_iff_mem, List.mem_append, Bool.decide_or]
    rw [List.contains_eq_mem, List.contains_eq_mem, List.contains_eq_mem]
    simp only [List.mem_append, Bool.decide_or]
    cases decide (n ∈ N) <;> cases decide (n ∈ N') <;> cases (S.any fun n => N.contains n) <;> simp
theorem CV.kill_kill (c : CV) (N M N' M' : List Nat) : (c.kill N M).kill N' M' = c.kill (N ++ N') (M ++ M') := by
  have e : c.hit (N ++ N') (M ++ M') = (c.hit N M || c.hit N' M') := by
    simp only [CV.hit, any_app]
    cases (c.srcs.any fun n => N.contains n) <;> cases (c.srcs.any fun n => N'.contains n) <;> cases (c.ids.any fun n => M.contains n) <;> simp
  unfold CV.kill
  rw [e]
  cases h : c.hit N M with
  | true => simp [CV.hit, CV.srcs, CV.ids]
  | false => simp
mutual
theorem AV.kill_kill (x : AV) (N M N' M' : List Nat) : (x.kill N M).kill N' M' = x.kill (N ++ N') (M ++ M') := by
  match x with
  | .c q => simp only [AV.kill, CV.kill_kill]
  | .agg l => simp only [AV.kill, List.map_map]; congr 1; exact List.map_congr_left fun c _ => CV.kill_kill c N M N' M'
  | .tup l => simp only [AV.kill, AV.killL_killL l N M N' M']
theorem AV.killL_killL (l : List AV) (N M N' M' : List Nat) : AV.killL N' M' (AV.killL N M l) = AV.killL (N ++ N') (M ++ M') l := by
  match l with
  | [] => rfl
  | x :: l => simp only [AV.killL, AV.kill_kill x N M N' M', AV.killL_killL l N M N' M']
end
theorem Ob.kill_kill {o o1 o2 : Ob} {N M N' M' : List Nat} (h : o.kill N M = some o1) (k : o1.kill N' M' = some o2) : o.kill (N ++ N') (M ++ M') = some o2 := by
  cases o with
  | box l =>
    simp only [Ob.kill, Option.some.injEq] at h
    subst h
    simp only [Ob.kill, Option.some.injEq] at k ⊢
    rw [← k, List.map_map]
    congr 1
    exact List.map_congr_left fun c _ => (CV.kill_kill c N M N' M').symm
  | row e t xs S =>
    simp only [Ob.kill] at h
    split at h
    · cases h
    rename_i h1
    cases h
    simp only [Ob.kill] at k ⊢
    split at k
    · cases k
    rename_i h2
    rw [any_app, if_neg (by simpa using ⟨by simpa using h1, by simpa using h2⟩)]
    exact k
  | tree e t xs h' => simp only [Ob.kill, Option.some.injEq] at h; subst h; simpa only [Ob.kill] using k
/-- Killing by more kills no less, and by the same again nothing. -/
theorem any_sub {S N Z : List Nat} (h : ∀ n ∈ N, n ∈ Z) : S.any (fun n => (Z ++ N).contains n) = S.any (fun n => Z.contains n) := by
  congr 1
  funext n
  rw [List.contains_eq_mem, List.contains_eq_mem]
  congr 1
  simp only [List.mem_append, eq_iff_iff]
  exact ⟨fun h' => h'.elim id (h n), .inl⟩
theorem CV.kill_sub {c : CV} {N M ZN ZM : List Nat} (h1 : ∀ n ∈ N, n ∈ ZN) (h2 : ∀ n ∈ M, n ∈ ZM) : c.kill (ZN ++ N) (ZM ++ M) = c.kill ZN ZM := by
  unfold CV.kill CV.hit
  rw [any_sub h1, any_sub h2]
mutual
theorem AV.kill_sub {x : AV} {N M ZN ZM : List Nat} (h1 : ∀ n ∈ N, n ∈ ZN) (h2 : ∀ n ∈ M, n ∈ ZM) : x.kill (ZN ++ N) (ZM ++ M) = x.kill ZN ZM := by
  match x with
  | .c q => simp only [AV.kill, CV.kill_sub h1 h2]
  | .agg l => simp only [AV.kill]; congr 1; exact List.map_congr_left fun c _ => CV.kill_sub h1 h2
  | .tup l => simp only [AV.kill, AV.killL_sub (l := l) h1 h2]
theorem AV.killL_sub {l : List AV} {N M ZN ZM : List Nat} (h1 : ∀ n ∈ N, n ∈ ZN) (h2 : ∀ n ∈ M, n ∈ ZM) : AV.killL (ZN ++ N) (ZM ++ M) l = AV.killL ZN ZM l := by
  match l with
  | [] => rfl
  | x :: l => simp only [AV.killL, AV.kill_sub (x := x) h1 h2, AV.killL_sub (l := l) h1 h2]
end
theorem Ob.kill_sub {o : Ob} {N M ZN ZM : List Nat} (h1 : ∀ n ∈ N, n ∈ ZN) (h2 : ∀ n ∈ M, n ∈ ZM) : o.kill (ZN ++ N) (ZM ++ M) = o.kill ZN ZM := by
  cases o with
  | box l => simp only [Ob.kill]; congr 2; exact List.map_congr_left fun c _ => CV.kill_sub h1 h2
  | row e t xs S => simp only [Ob.kill]; rw [any_sub h1]
  | tree e t xs h' => rfl
section
variable {R R' : Rz} {w w' : World} {N M ZN ZM : List Nat}
theorem VR.stay {x : AV} {u : Value} (h : VR R w (x.kill ZN ZM) u) (hf : FR N M R w R' w') (h0 : 0 ∉ N) (h1 : ∀ n ∈ N, n ∈ ZN) (h2 : ∀ n ∈ M, n ∈ ZM) : VR R' w' (x.kill ZN ZM) u := by
  have := VR.kill h hf h0
  rwa [AV.kill_kill, AV.kill_sub h1 h2] at this
theorem OR.stay {n : Nat} {o o' : Ob} (h : OR R w n o') (ho : o.kill ZN ZM = some o') (hn : n ∉ ZN) (hm : n ∉ ZM) (hf : FR N M R w R' w') (h0 : 0 ∉ N) (h1 : ∀ n ∈ N, n ∈ ZN) (h2 : ∀ n ∈ M, n ∈ ZM) : OR R' w' n o' := by
  have e : o'.kill N M = some o' := by
    have h3 : o.kill (ZN ++ N) (ZM ++ M) = some o' := by rw [Ob.kill_sub h1 h2]; exact ho
    cases o with
    | box l =>
      simp only [Ob.kill, Option.some.injEq] at ho h3 ⊢
      subst ho
      simp only [Ob.kill, Option.some.injEq]
      rw [← h3, List.map_map]
      congr 1
      exact List.map_congr_left fun c _ => CV.kill_kill c ZN ZM N M
    | row e t xs S =>
      simp only [Ob.kill] at ho
      split at ho
      · cases ho
      rename_i h4
      cases ho
      simp only [Ob.kill]
      rw [if_neg]
      intro h5
      apply h4
      obtain ⟨m, hm1, hm2⟩ := List.any_eq_true.1 h5
      exact List.any_eq_true.2 ⟨m, hm1, by simpa using h1 m (by simpa using hm2)⟩
    | tree e t xs h' => simp only [Ob.kill, Option.some.injEq] at ho; subst ho; rfl
  exact OR.kill h hf h0 (fun h => hn (h1 n h)) (fun h => hm (h2 n h)) e
theorem VR.weaker {x : AV} {u : Value} (h : VR R w x u) : VR R w (x.kill ZN ZM) u := by
  by_cases h0 : 0 ∈ ZN
  · have hc : ∀ (c : CV) (u : Value), VRc R w c u → VRc R w (c.kill ZN ZM) u := fun c u h => by
      unfold CV.kill; split
      · trivial
      · exact h
    have hs : ∀ (l : List CV) (us : List Value), VRs R w l us → VRs R w (l.map (CV.kill ZN ZM)) us := by
      intro l
      induction l with
      | nil => intro us h; exact h
      | cons c l ih => intro us h; obtain ⟨u, us', rfl, h1, h2⟩ := h; exact ⟨u, us', rfl, hc c u h1, ih us' h2⟩
    refine AV.rec (motive_1 := fun x => ∀ u, VR R w x u → VR R w (x.kill ZN ZM) u) (motive_2 := fun l => ∀ us, VRt R w l us → VRt R w (AV.killL ZN ZM l) us) ?_ ?_ ?_ ?_ ?_ x u h
    · intro c u h; simp only [VR, AV.kill] at h ⊢; exact hc c u h
    · intro l u h; simp only [VR, AV.kill] at h ⊢; obtain ⟨us, rfl, h1⟩ := h; exact ⟨us, rfl, hs l _ h1⟩
    · intro l ih u h; simp only [VR, AV.kill] at h ⊢; obtain ⟨us, rfl, h1⟩ := h; exact ⟨us, rfl, ih _ h1⟩
    · intro us h; simpa only [VRt, AV.killL] using h
    · intro x l h1 h2 us h; simp only [VRt, AV.killL] at h ⊢; obtain ⟨u, us', rfl, h3, h4⟩ := h; exact ⟨u, us', rfl, h1 u h3, h2 us' h4⟩
  · exact VR.kill h (FR.refl _ _ _ _) h0
end

/-- What an operation has come to: whether it ran, and its result. -/
structure DR where
  run : Bool
  r : Res
def DR.none : DR := ⟨false, ⟨True, .c (.sc (.tuple #[])), [], [], []⟩⟩
/-- The slots that an operation reads. -/
def opSlots (o : Oper) : List Nat := o.op.operands.toList.filterMap fun | .tmp t => some t | _ => Option.none
/-- The state over which an operation is reckoned: the slots that it reads; nothing that one that may come before or behind it writes. -/
def sB (σ : St) (l D : List Nat) : St := ⟨AV.killL D D (keepAt l 0 σ.tm), killObs D D σ.ob⟩
def finD (σ : St) (d : Option Tmp) (D : List Nat) (r : Res) : St := σ.fin d r.N r.M (r.r.kill D D) (killObs D D r.news)
def adraw (P : Program) (G : TypeId → Option Ty) (T : Tab) (dn : List (List Nat)) (all : List Oper) : List Oper → Nat → St → List DR → (St → List DR → Prop) → Prop
  | [], _, σ, acc, K => K σ acc
  | o :: l, i, σ, acc, K => match o.guard with
    | none => match aop P G T (sB σ (opSlots o) (dn.getD i [])) o with
      | some r => r.c ∧ adraw P G T dn all l (i + 1) (finD σ o.dst (dn.getD i []) r) (acc ++ [⟨true, r⟩]) K
      | none => False
    | some (j, want) => match gnone σ all j with
      | true => adraw P G T dn all l (i + 1) (finD σ o.dst (dn.getD i []) DR.none.r) (acc ++ [DR.none]) K
      | false => match gval σ all j with
      | some (d, b) => gcase b want (match aop P G T (sB (σ.setb d want) (opSlots o) (dn.getD i [])) o with
          | some r => r.c ∧ adraw P G T dn all l (i + 1) (finD (σ.setb d want) o.dst (dn.getD i []) r) (acc ++ [⟨true, r⟩]) K
          | none => False)
        (adraw P G T dn all l (i + 1) (finD (σ.setb d (!want)) o.dst (dn.getD i []) DR.none.r) (acc ++ [DR.none]) K)
      | none => False

/-- The text's order, as a run: the states one behind the other. -/
inductive DTr (P : Program) (G : TypeId → Option Ty) (T : Tab) (dn : List (List Nat)) (all : List Oper) : List Oper → Nat → St → List DR → St → Prop
  | nil (i : Nat) (σ : St) : DTr P G T dn all [] i σ [] σ
  | run {o l i σ r rs σ'} (hg : o.guard = none ∨ ∃ j want d, o.guard = some (j, want) ∧ gval σ all j = some (d, want)) (h : aop P G T (sB σ (opSlots o) (dn.getD i [])) o = some r) (hc : r.c)
      (k : DTr P G T dn all l (i + 1) (finD σ o.dst (dn.getD i []) r) rs σ') : DTr P G T dn all (o :: l) i σ (⟨true, r⟩ :: rs) σ'
  | skip {o l i σ rs σ'} (hg : ∃ j want, o.guard = some (j, want) ∧ ((∃ d, gval σ all j = some (d, !want)) ∨ gnone σ all j = true))
      (k : DTr P G T dn all l (i + 1) (finD σ o.dst (dn.getD i []) DR.none.r) rs σ') : DTr P G T dn all (o :: l) i σ (DR.none :: rs) σ'
theorem setb_same {σ : St} {d : Tmp} {b : Bool} (h : σ.get d = .c (.sc (.bool b))) : σ.setb d b = σ := by
  unfold St.setb
  unfold St.get at h
  cases hd : σ.tm[d]? with
  | none => rw [hd] at h; simp at h
  | some x =>
    rw [hd] at h
    simp only [Option.getD_some] at h
    subst h
    have : σ.tm.set d (.c (.sc (.bool b))) = σ.tm := by
      apply List.ext_getElem?
      intro i
      rw [List.getElem?_set]
      split
      · rename_i e; subst e
        split
        · exact hd.symm
        · rename_i hl; rw [List.getElem?_eq_none (by omega)]
      · rfl
    rw [this]
theorem gval_get {σ : St} {ops : List Oper} {j : Nat} {d : Tmp} {b : Bool} (h : gval σ ops j = some (d, b)) : ∃ oj, ops[j]? = some oj ∧ oj.dst = some d ∧ σ.get d = .c (.sc (.bool b)) := by
  unfold gval at h
  split at h
  case h_2 => cases h
  rename_i oj e1
  split at h
  case h_2 => cases h
  rename_i d' e2
  split at h
  case h_2 => cases h
  rename_i b' e3
  cases h
  exact ⟨oj, e1, e2, e3⟩
theorem adraw_tr {P : Program} {G : TypeId → Option Ty} {T : Tab} {dn : List (List Nat)} {all : List Oper} {K : St → List DR → Prop} : ∀ (l : List Oper) (i : Nat) (σ : St) (acc : List DR),
    adraw P G T dn all l i σ acc K → ∃ rs σ', DTr P G T dn all l i σ rs σ' ∧ K σ' (acc ++ rs) := by
  intro l
  induction l with
  | nil => intro i σ acc h; exact ⟨[], σ, .nil i σ, by simpa [adraw] using h⟩
  | cons o l ih =>
    intro i σ acc h
    simp only [adraw] at h
    split at h
    · rename_i hg
      split at h
      case h_2 => exact h.elim
      rename_i r e1
      obtain ⟨rs, σ', h1, h2⟩ := ih _ _ _ h.2
      exact ⟨_, σ', .run (.inl hg) e1 h.1 h1, by simpa using h2⟩
    · rename_i j want hg
      split at h
      · rename_i e1
        obtain ⟨rs, σ', h2, h3⟩ := ih _ _ _ h
        exact ⟨_, σ', .skip ⟨j, want, hg, .inr e1⟩ h2, by simpa using h3⟩
      split at h
      case h_2 => exact h.elim
      rename_i d b e1
      obtain ⟨oj, e2, e3, e4⟩ := gval_get e1
      by_cases hb : b = want
      · subst hb
        have h1 := h.1 rfl
        rw [setb_same e4] at h1
        split at h1
        case h_2 => exact h1.elim
        rename_i r e5
        obtain ⟨rs, σ', h2, h3⟩ := ih _ _ _ h1.2
        exact ⟨_, σ', .run (.inr ⟨j, b, d, hg, e1⟩) e5 h1.1 h2, by simpa using h3⟩
      · have hb2 : b = !want := by cases b <;> cases want <;> simp_all
        have h1 := h.2 hb2
        rw [hb2] at e4
        rw [setb_same e4] at h1
        obtain ⟨rs, σ', h2, h3⟩ := ih _ _ _ h1
        exact ⟨_, σ', .skip ⟨j, want, hg, .inl ⟨d, by rw [e1, hb2]⟩⟩ h2, by simpa using h3⟩
end Go.Proofs.Ythglggjgjlmhlaa
