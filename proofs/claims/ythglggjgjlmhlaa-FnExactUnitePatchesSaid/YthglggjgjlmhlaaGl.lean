/-
  The logic of trees, twelfth part: all operations; statements; bodies of functions.
-/
import Derived.Test.YthglggjgjlmhlaaGkg
namespace Go.Proofs.Ythglggjgjlmhlaa
open Go.RowKit
set_option linter.unusedSimpArgs false
set_option linter.unusedVariables false

def aMm (σ : St) (mx : Bool) (x y : Operand) : Option Res :=
  match σ.ev x, σ.ev y with
  | .c (.sc (.int k a)), .c (.sc (.int _ b)) => pureRes (.c (.sc (.int k (if mx then (if b > a then b else a) else (if b < a then b else a)))))
  | _, _ => none
def aop (P : Program) (G : TypeId → Option Ty) (T : Tab) (σ : St) (o : Oper) : Option Res :=
  match o.op with
  | .move x => pureRes (σ.ev x)
  | .assign x => pureRes (σ.ev x)
  | .pick c x y => aPick σ c x y
  | .alloc t => aAlloc P o.dst t
  | .box _ x => aBox σ o.dst x
  | .build t parts => aBuild P σ t parts.toList
  | .buildSlice t len parts => aLit P G σ o.dst t len parts.toList
  | .load t x => aLoad P σ t x
  | .store t p x => aStore P σ t p x
  | .nilCheck x => aNil σ x
  | .binOp op t x y _ => aBin P σ op t x y
  | .unOp op _ x => aUn σ op x
  | .convert s d x => aConv P σ s d x
  | .makeSlice t x y => aMake P G σ o.dst t x y
  | .slice t x lo hi none => aSlice P σ t x lo hi
  | .fieldAddr s x f => aField P σ s x f
  | .field t x f => aPart P σ t x f
  | .indexAddr t x i => aIdx P σ t x i
  | .extract x i => aExt σ x i
  | .call ⟨.builtin .len, ⟨[x]⟩, ⟨[t]⟩⟩ => aLen P σ t x
  | .call ⟨.builtin .append, ⟨[s, x]⟩, ⟨[t, t']⟩⟩ => if t' = t then aApp P σ o.dst t s x else none
  | .call ⟨.builtin .max, ⟨[x, y]⟩, _⟩ => aMm σ true x y
  | .call ⟨.builtin .min, ⟨[x, y]⟩, _⟩ => aMm σ false x y
  | .call ⟨.value f, ⟨args⟩, _⟩ => aCall T σ o.dst f args
  | .makeFunc (.func f) ⟨[]⟩ ⟨caps⟩ => aFunc σ f caps
  | _ => none

section
variable {P : Program} {G : TypeId → Option Ty} {T : Tab} {R0 R : Rz} {w0 w : World} {σ : St} {a : Act} {o : Oper} {K : Act → World → Prop} {Q : Exit → Act → World → Prop}
theorem aMm_ok {mx : Bool} {x y : Operand} {ts : Array TypeId} {r : Res} (ho : o.op = .call { callee := .builtin (if mx then .max else .min), args := #[x, y], argTypes := ts }) (h : aMm σ mx x y = some r) (hs : Sim R0 w0 R σ a w)
    (hK : ∀ R' v w', Done R w r.N r.M r.r r.news R' v w' → K (a.put o.dst v) w') : o.wp P a w K Q := by
  have h1 := hs.ev x
  have h2 := hs.ev y
  unfold aMm at h
  split at h
  case h_2 => cases h
  rename_i k p k' q e1 e2
  rw [e1] at h1; rw [e2] at h2
  simp only [VR, VRc] at h1 h2
  cases h
  cases mx with
  | true =>
    refine wp_of_pure (v := .int k (if q > p then q else p)) hs ?_ (by simp [VR, VRc]) hK
    unfold execOp
    simp [ho, resolve, invoke, builtin, h1, h2, run_max_int2]
  | false =>
    refine wp_of_pure (v := .int k (if q < p then q else p)) hs ?_ (by simp [VR, VRc]) hK
    unfold execOp
    simp [ho, resolve, invoke, builtin, h1, h2, run_min_int2]
theorem aop_ok (hT : TabOk P T) {r : Res} (h : aop P G T σ o = some r) (hc : r.c) (hs : Sim R0 w0 R σ a w)
    (hK : ∀ R' v w', Done R w r.N r.M r.r r.news R' v w' → K (a.put o.dst v) w') : o.wp P a w K Q := by
  unfold aop at h
  split at h
  · rename_i x e; cases h; exact aMove_ok (.inl e) hs hK
  · rename_i x e; cases h; exact aMove_ok (.inr e) hs hK
  · rename_i c x y e; exact aPick_ok e h hs hK
  · rename_i t e; exact aAlloc_ok e h hs hK
  · rename_i t x e; exact aBox_ok e h hs hK
  · rename_i t parts e; exact aBuild_ok e h hs hK
  · rename_i t len parts e; exact aLit_ok e h hs hK
  · rename_i t x e; exact aLoad_ok e h hc hs hK
  · rename_i t p x e; exact aStore_ok e h hc hs hK
  · rename_i x e; exact aNil_ok e h hs hK
  · rename_i op t x y t' e; exact aBin_ok e h hc hs hK
  · rename_i op t x e; exact aUn_ok e h hs hK
  · rename_i s d x e; exact aConv_ok e h hs hK
  · rename_i t x y e; exact aMake_ok e h hc hs hK
  · rename_i t x lo hi e; exact aSlice_ok e h hc hs hK
  · rename_i s x f e; exact aField_ok e h hs hK
  · rename_i t x f e; exact aPart_ok e h hs hK
  · rename_i t x i e; exact aIdx_ok e h hc hs hK
  · rename_i x i e; exact aExt_ok e h hs hK
  · rename_i x t e; exact aLen_ok (t' := 0) e h hs hK
  · rename_i s x t t' e
    split at h
    · rename_i e2; subst e2; exact aApp_ok e h hc hs hK
    · cases h
  · rename_i x y ts e; exact aMm_ok (mx := true) e h hs hK
  · rename_i x y ts e; exact aMm_ok (mx := false) e h hs hK
  · rename_i f args ts e; exact aCall_ok hT e h hc hs hK
  · rename_i f caps e; exact aFunc_ok e h hs hK
  · cases h

/-- The value of a test that guards operations. -/
def gval (σ : St) (ops : List Oper) (j : Nat) : Option (Tmp × Bool) :=
  match ops[j]? with
  | some oj => match oj.dst with
    | some d => match σ.get d with
      | .c (.sc (.bool b)) => some (d, b)
      | _ => none
    | none => none
  | none => none
/-- A test that has not been run: it yields nothing. -/
def gnone (σ : St) (ops : List Oper) (j : Nat) : Bool :=
  match ops[j]? with
  | some oj => match oj.dst with
    | some d => match σ.get d with
      | .c (.sc (.tuple _)) => true
      | _ => false
    | none => false
  | none => false
def St.setb (σ : St) (d : Tmp) (b : Bool) : St := { σ with tm := σ.tm.set d (.c (.sc (.bool b))) }
/-- A guard's two ways. -/
def gcase (b want : Bool) (p q : Prop) : Prop := (b = want → p) ∧ (b = !want → q)
theorem gcase_tt (p q : Prop) : gcase true true p q = p := by simp [gcase]
theorem gcase_ff (p q : Prop) : gcase false false p q = p := by simp [gcase]
theorem gcase_tf (p q : Prop) : gcase true false p q = q := by simp [gcase]
theorem gcase_ft (p q : Prop) : gcase false true p q = q := by simp [gcase]
theorem gcase_mk {b want : Bool} {p q : Prop} (h : b = want → p) (k : b = !want → q) : gcase b want p q := ⟨h, k⟩
/-- The operations of a region in the order of the text. -/
def aseq (P : Program) (G : TypeId → Option Ty) (T : Tab) (all : List Oper) : List Oper → St → (St → Prop) → Prop
  | [], σ, K => K σ
  | o :: l, σ, K => match o.guard with
    | none => match aop P G T σ o with
      | some r => r.c ∧ aseq P G T all l (σ.fin o.dst r.N r.M r.r r.news) K
      | none => False
    | some (j, want) => match gnone σ all j with
      | true => aseq P G T all l (σ.fin o.dst [] [] (.c (.sc (.tuple #[]))) []) K
      | false => match gval σ all j with
      | some (d, b) => gcase b want (match aop P G T (σ.setb d want) o with
          | some r => r.c ∧ aseq P G T all l ((σ.setb d want).fin o.dst r.N r.M r.r r.news) K
          | none => False)
        (aseq P G T all l ((σ.setb d (!want)).fin o.dst [] [] (.c (.sc (.tuple #[]))) []) K)
      | none => False
theorem gnone_get {σ : St} {ops : List Oper} {j : Nat} (h : gnone σ ops j = true) : ∃ oj d x, ops[j]? = some oj ∧ oj.dst = some d ∧ σ.get d = .c (.sc (.tuple x)) := by
  unfold gnone at h
  split at h
  case h_2 => cases h
  rename_i oj e1
  split at h
  case h_2 => cases h
  rename_i d' e2
  split at h
  case h_2 => cases h
  rename_i x e3
  exact ⟨oj, d', x, e1, e2, e3⟩
theorem yielded_none {ops : Array Oper} {tmps : Array Value} {j : Nat} {oj : Oper} {d : Tmp} {x : Array Value} (e1 : ops[j]? = some oj) (e2 : oj.dst = some d) (h : tmps.getD d undef = .tuple x) : yielded ops tmps j = none := by
  simp only [yielded, e1, e2, Option.bind_some]
  rw [Array.getD_eq_getD_getElem?] at h
  cases hq : tmps[d]? with
  | none => rfl
  | some v => rw [hq] at h; simp at h; rw [h]
theorem gnone_ok (hs : Sim R0 w0 R σ a w) {ops : Array Oper} {j : Nat} (h : gnone σ ops.toList j = true) : yielded ops a.tmps j = none := by
  obtain ⟨oj, d, x, e1, e2, e3⟩ := gnone_get h
  have h1 := hs.get d
  rw [e3] at h1
  simp only [VR, VRc] at h1
  rw [Array.getElem?_toList] at e1
  exact yielded_none e1 e2 h1
theorem gval_ok (hs : Sim R0 w0 R σ a w) {ops : Array Oper} {j : Nat} {d : Tmp} {b : Bool} (h : gval σ ops.toList j = some (d, b)) : yielded ops a.tmps j = some b ∧ Sim R0 w0 R (σ.setb d b) a w := by
  unfold gval at h
  split at h
  case h_2 => cases h
  rename_i oj e1
  split at h
  case h_2 => cases h
  rename_i d' e2
  split at h
  case h_2 => cases h
  rename_i b' e3
  cases h
  have h1 := hs.get d
  rw [e3] at h1
  simp only [VR, VRc] at h1
  rw [Array.getElem?_toList] at e1
  have h2 : a.tmps[d]? = some (.bool b) := by
    rw [Array.getD_eq_getD_getElem?] at h1
    cases hq : a.tmps[d]? with
    | none => rw [hq] at h1; cases h1
    | some v => rw [hq] at h1; simp at h1; rw [h1]
  refine ⟨by simp [yielded, e1, e2, h2], ⟨by simp [St.setb, hs.size], ?_, hs.ob, hs.os, hs.tape, hs.output, hs.grow, hs.keep, hs.pl, hs.defers⟩⟩
  have := hs.tm.set d (x := .c (.sc (.bool b))) (u := .bool b) (by simp [VR, VRc])
  have e4 : a.tmps.toList.set d (.bool b) = a.tmps.toList := by
    apply List.ext_getElem?
    intro i
    rw [List.getElem?_set]
    split
    · rename_i e; subst e
      split
      · rw [Array.getElem?_toList, h2]
      · rename_i hl; rw [List.getElem?_eq_none (by omega)]
    · rfl
  rw [e4] at this
  exact this
theorem Sim.skip (hs : Sim R0 w0 R σ a w) (dst : Option Tmp) : Sim R0 w0 R (σ.fin dst [] [] (.c (.sc (.tuple #[]))) []) (a.put dst undef) w :=
  hs.fin (FR.refl _ _ _ _) (by simp) (by simp [VR, VRc, undef]) (by intro p hp; cases hp)
theorem aseq_ok (hT : TabOk P T) {ops : Array Oper} {KA : St → Prop} (hK : ∀ R σ a w, Sim R0 w0 R σ a w → KA σ → Q .normal a w) : ∀ (l : List Oper) (R : Rz) (σ : St) (a : Act) (w : World),
    aseq P G T ops.toList l σ KA → Sim R0 w0 R σ a w → wpList P ops Q l a w := by
  intro l
  induction l with
  | nil => intro R σ a w h hs; exact wpList_nil (hK R σ a w hs h)
  | cons o l ih =>
    intro R σ a w h hs
    refine wpList_step fun K hKK => ?_
    simp only [aseq] at h
    split at h
    · rename_i e1
      rw [if_pos (by simp [Region.wanted, e1])]
      split at h
      · rename_i r e2
        exact aop_ok hT e2 h.1 hs fun R' v w' hd => hKK _ _ (ih R' _ _ w' h.2 (hs.done hd))
      · exact h.elim
    · rename_i j want e1
      split at h
      · rename_i e2
        rw [if_neg (by simp [Region.wanted, e1, gnone_ok hs e2])]
        exact hKK _ _ (ih R _ _ w h (hs.skip o.dst))
      split at h
      · rename_i d b e2
        obtain ⟨h1, h2⟩ := gval_ok hs e2
        by_cases hb : b = want
        · subst hb
          have h3 := h.1 rfl
          rw [if_pos (by simp [Region.wanted, e1, h1])]
          split at h3
          · rename_i r e3
            exact aop_ok hT e3 h3.1 h2 fun R' v w' hd => hKK _ _ (ih R' _ _ w' h3.2 (h2.done hd))
          · exact h3.elim
        · have hb2 : b = !want := by cases b <;> cases want <;> simp_all
          have h3 := h.2 hb2
          rw [if_neg (by simp [Region.wanted, e1, h1, hb])]
          rw [hb2] at h2
          exact hKK _ _ (ih R _ _ w h3 (h2.skip o.dst))
      · exact h.elim
end

/-- What holds behind a statement, in every world that the state tells of. -/
def AWP (P : Program) (code : Code) (σ : St) (Q : Exit → St → Prop) : Prop :=
  ∀ R0 w0 R a w, Sim R0 w0 R σ a w → code.wp P (fun e a' w' => ∃ R' σ', Sim R0 w0 R' σ' a' w' ∧ Q e σ') a w
/-- A state that tells less. -/
def Wk (σ σ' : St) : Prop := ∀ R0 w0 R a w, Sim R0 w0 R σ a w → ∃ R', Sim R0 w0 R' σ' a w
theorem Wk.refl (σ : St) : Wk σ σ := fun _ _ R _ _ h => ⟨R, h⟩
theorem Wk.trans {σ σ' σ'' : St} (h : Wk σ σ') (k : Wk σ' σ'') : Wk σ σ'' := fun R0 w0 R a w hs => by
  obtain ⟨R', h'⟩ := h R0 w0 R a w hs
  exact k R0 w0 R' a w h'
def thenA (K : St → Prop) (Q : Exit → St → Prop) : Exit → St → Prop
  | .normal, σ => K σ
  | e, σ => Q e σ
def inBlockA (id : Nat) (Q : Exit → St → Prop) : Exit → St → Prop
  | .exit id', σ => if id' = id then Q .normal σ else Q (.exit id') σ
  | e, σ => Q e σ
section
variable {P : Program} {σ : St} {Q : Exit → St → Prop}
theorem AWP_wk {c : Code} {σ' : St} (h : Wk σ σ') (k : AWP P c σ' Q) : AWP P c σ Q := fun R0 w0 R a w hs => by
  obtain ⟨R', h'⟩ := h R0 w0 R a w hs
  exact k R0 w0 R' a w h'
theorem AWP_mono {c : Code} {Q' : Exit → St → Prop} (h : AWP P c σ Q) (hq : ∀ e σ, Q e σ → Q' e σ) : AWP P c σ Q' := fun R0 w0 R a w hs =>
  wp_mono (h R0 w0 R a w hs) fun e a w ⟨R', σ', h1, h2⟩ => ⟨R', σ', h1, hq e σ' h2⟩
theorem AWP_seq {x y : Code} (h : AWP P x σ (thenA (fun σ' => AWP P y σ' Q) Q)) : AWP P (.seq x y) σ Q := fun R0 w0 R a w hs => by
  refine wp_seq (wp_mono (h R0 w0 R a w hs) fun e a w ⟨R', σ', h1, h2⟩ => ?_)
  cases e <;> first | exact h2 R0 w0 R' a w h1 | exact ⟨R', σ', h1, h2⟩
theorem AWP_seq_k {x y : Code} (h : ∀ K : St → Prop, (∀ σ', AWP P y σ' Q → K σ') → AWP P x σ (thenA K Q)) : AWP P (.seq x y) σ Q := AWP_seq (h _ fun _ h => h)
theorem AWP_seq_j {x y : Code} (F : Prop) (σJ : St) (hJ : F → AWP P y σJ Q) (h : ∀ K : St → Prop, (∀ σ', Wk σ' σJ → F → K σ') → AWP P x σ (thenA K Q)) : AWP P (.seq x y) σ Q :=
  AWP_seq (h _ fun _ h1 h2 => AWP_wk h1 (hJ h2))
theorem AWP_region {id : Nat} {ops : Array Oper} {G : TypeId → Option Ty} {T : Tab} (hT : TabOk P T) (h : aseq P G T ops.toList ops.toList σ (Q .normal)) : AWP P (.region id ops false) σ Q := fun R0 w0 R a w hs => by
  exact wp_region_list (aseq_ok hT (fun R' σ' a' w' h1 h2 => ⟨R', σ', h1, h2⟩) ops.toList R σ a w h hs)
theorem AWP_cond {c : Operand} {x y : Code} {b : Bool} (hc : σ.ev c = .c (.sc (.bool b))) (ht : b = true → AWP P x σ Q) (hf : b = false → AWP P y σ Q) : AWP P (.cond c x y) σ Q := fun R0 w0 R a w hs => by
  have h1 := hs.ev c
  rw [hc] at h1
  simp only [VR, VRc] at h1
  exact wp_cond_split h1 (fun e => ht e R0 w0 R a w hs) (fun e => hf e R0 w0 R a w hs)
theorem AWP_block {id : Nat} {c : Code} (h : AWP P c σ (inBlockA id Q)) : AWP P (.block id c) σ Q := fun R0 w0 R a w hs => by
  refine wp_block (wp_mono (h R0 w0 R a w hs) fun e a w ⟨R', σ', h1, h2⟩ => ?_)
  cases e <;> try exact ⟨R', σ', h1, h2⟩
  rename_i id'
  simp only [inBlockA] at h2
  simp only [Exit.inBlock]
  split
  · rename_i e; rw [if_pos e] at h2; exact ⟨R', σ', h1, h2⟩
  · rename_i e; rw [if_neg e] at h2; exact ⟨R', σ', h1, h2⟩
theorem AWP_skip (h : Q .normal σ) : AWP P .skip σ Q := fun _ _ R _ _ hs => wp_skip ⟨R, σ, hs, h⟩
theorem AWP_label {l : Nat} (h : Q .normal σ) : AWP P (.label l) σ Q := fun _ _ R _ _ hs => wp_label ⟨R, σ, hs, h⟩
theorem AWP_exit {id : Nat} (h : Q (.exit id) σ) : AWP P (.exit id) σ Q := fun _ _ R _ _ hs => wp_exit ⟨R, σ, hs, h⟩
theorem AWP_ret (h : Q .ret σ) : AWP P .ret σ Q := fun _ _ R _ _ hs => wp_ret ⟨R, σ, hs, h⟩
theorem wp_loop_ix {ι : Type} {c : Code} {Q : Exit → Act → World → Prop} {a : Act} {w : World} (J : ι → Act → World → Prop) (μ : ι → Nat) (i0 : ι) (h0 : J i0 a w)
    (round : ∀ i a w, J i a w → c.wp P (Exit.then (fun a' w' => ∃ j, J j a' w' ∧ μ j < μ i) Q) a w) : (Code.loop c).wp P Q a w := by
  intro b k cs
  have key : ∀ n i a w, μ i = n → J i a w → ∃ e a' w', Q e a' w' ∧ Arrives P (lone (b.at a (.code c :: .inLoop c :: k)) cs w) b k cs e a' w' := by
    intro n
    induction n using Nat.strongRecOn with
    | _ n ih =>
      intro i a w hn hI
      obtain ⟨e, a₁, w₁, hq, harr⟩ := round i a w hI b (.inLoop c :: k) cs
      cases e with
      | normal =>
        obtain ⟨j, hJ, hlt⟩ := hq
        obtain ⟨e₂, a₂, w₂, hq₂, harr₂⟩ := ih (μ j) (hn ▸ hlt) j a₁ w₁ rfl hJ
        exact ⟨e₂, a₂, w₂, hq₂, .of_steps (Steps.trans harr (.one step_inLoop)) harr₂⟩
      | _ => exact ⟨_, a₁, w₁, hq, .pass (x := .inLoop c) rfl (fun _ _ => .inl (by simp)) harr⟩
  obtain ⟨e, a', w', hq, harr⟩ := key _ i0 a w rfl h0
  exact ⟨e, a', w', hq, .of_steps (.one step_loop) harr⟩
theorem AWP_loop {ι : Type} {c : Code} (I : ι → St) (μ : ι → Nat) (i0 : ι) (h0 : Wk σ (I i0)) (h : ∀ i, AWP P c (I i) (thenA (fun σ' => ∃ j, Wk σ' (I j) ∧ μ j < μ i) Q)) : AWP P (.loop c) σ Q := fun R0 w0 R a w hs => by
  obtain ⟨R', h1⟩ := h0 R0 w0 R a w hs
  refine wp_loop_ix (fun i a w => ∃ R, Sim R0 w0 R (I i) a w) μ i0 ⟨R', h1⟩ fun i a w ⟨R1, hs1⟩ => ?_
  refine wp_mono (h i R0 w0 R1 a w hs1) fun e a' w' ⟨R2, σ2, k1, k2⟩ => ?_
  cases e <;> try exact ⟨R2, σ2, k1, k2⟩
  obtain ⟨j, k3, k4⟩ := k2
  obtain ⟨R3, k5⟩ := k3 R0 w0 R2 a' w' k1
  exact ⟨j, ⟨R3, k5⟩, k4⟩
end

theorem AWP_loop_k {P : Program} {σ : St} {Q : Exit → St → Prop} {ι : Type} {c : Code} (I : ι → St) (μ : ι → Nat) (i0 : ι) (h0 : Wk σ (I i0)) (h : ∀ i, ∀ K : St → Prop, (∀ j σ', Wk σ' (I j) → μ j < μ i → K σ') → AWP P c (I i) (thenA K Q)) : AWP P (.loop c) σ Q :=
  AWP_loop I μ i0 h0 fun i => h i _ fun j _ h1 h2 => ⟨j, h1, h2⟩

/-- Slots and objects that are kept; all else is forgotten. -/
def keepAt (l : List Nat) : Nat → List AV → List AV
  | _, [] => []
  | i, x :: xs => (if l.contains i then x else .c .bot) :: keepAt l (i + 1) xs
def St.keep (σ : St) (l ns : List Nat) : St := ⟨keepAt l 0 σ.tm, σ.ob.filter fun p => ns.contains p.1⟩
theorem Wk_keep (σ : St) (l ns : List Nat) : Wk σ (σ.keep l ns) := fun R0 w0 R a w hs => by
  have key : ∀ (xs : List AV) (us : List Value) (i : Nat), VRt R w xs us → VRt R w (keepAt l i xs) us ∧ (keepAt l i xs).length = xs.length := by
    intro xs
    induction xs with
    | nil => intro us i h; exact ⟨h, rfl⟩
    | cons x xs ih =>
      intro us i h
      simp only [VRt] at h
      obtain ⟨u, us', rfl, h1, h2⟩ := h
      obtain ⟨k1, k2⟩ := ih us' (i + 1) h2
      refine ⟨?_, by simp [keepAt, k2]⟩
      simp only [keepAt, VRt]
      refine ⟨u, us', rfl, ?_, k1⟩
      split
      · exact h1
      · simp [VR, VRc]
  obtain ⟨k1, k2⟩ := key _ _ 0 hs.tm
  exact ⟨R, hs.size.trans k2.symm, k1, fun p hp => hs.ob p (List.mem_filter.1 hp).1, hs.os, hs.tape, hs.output, hs.grow, hs.keep, hs.pl, hs.defers⟩

/-- Names are changed: f names anew, g back. -/
def ddp : List Nat → List Nat
  | [] => []
  | n :: l => if l.contains n then ddp l else n :: ddp l
theorem mem_ddp {l : List Nat} {n : Nat} : n ∈ ddp l ↔ n ∈ l := by
  induction l with
  | nil => simp [ddp]
  | cons m l ih =>
    simp only [ddp]
    split
    · rename_i h
      rw [ih, List.mem_cons]
      constructor
      · exact .inr
      · rintro (rfl | h2)
        · simpa using h
        · exact h2
    · simp [ih]
def renS (f : Nat → Nat) (S : List Nat) : List Nat := ddp ((S.map f).filter (· != 0))
def CV.ren (f : Nat → Nat) : CV → CV
  | .sc v => .sc v
  | .rd S e t xs => .rd (renS f S) e t xs
  | .pt S t x o => .pt (renS f S) t x o
  | .ow n => .ow (f n)
  | .po n o => .po (f n) o
  | .pe n i wd o => .pe (f n) i wd o
  | .sub n i wd o e t xs => .sub (f n) i wd o e t xs
  | .pi n i wd o j t x k => .pi (f n) i wd o j t x k
  | .fn g l => .fn g (l.map f)
  | .bot => .bot
mutual
def AV.ren (f : Nat → Nat) : AV → AV
  | .c x => .c (x.ren f)
  | .agg l => .agg (l.map (CV.ren f))
  | .tup l => .tup (AV.renL f l)
def AV.renL (f : Nat → Nat) : List AV → List AV
  | [] => []
  | x :: l => x.ren f :: AV.renL f l
end
def Ob.ren (f : Nat → Nat) : Ob → Ob
  | .box l => .box (l.map (CV.ren f))
  | .row e t xs S => .row e t xs (renS f S)
  | .tree e t xs h => .tree e t xs h
def CV.idsOk (f g : Nat → Nat) (c : CV) : Bool := c.ids.all fun n => g (f n) == n
mutual
def AV.idsOk (f g : Nat → Nat) : AV → Bool
  | .c x => x.idsOk f g
  | .agg l => l.all (CV.idsOk f g)
  | .tup l => AV.idsOkL f g l
def AV.idsOkL (f g : Nat → Nat) : List AV → Bool
  | [] => true
  | x :: l => x.idsOk f g && AV.idsOkL f g l
end
def Ob.idsOk (f g : Nat → Nat) : Ob → Bool
  | .box l => l.all (CV.idsOk f g)
  | .row _ _ _ _ => true
  | .tree _ _ _ _ => true
/-- A finite change of names. -/
def fL : List (Nat × Nat) → Nat → Nat
  | [], n => n
  | (a, b) :: l, n => if n = a then b else fL l n
def St.ren (σ : St) (L : List (Nat × Nat)) : St := ⟨AV.renL (fL L) σ.tm, σ.ob.map fun p => (fL L p.1, p.2.ren (fL L))⟩
def St.renOk (σ : St) (L M : List (Nat × Nat)) : Bool := L.all (fun p => 5 < p.1) && M.all (fun p => p.1 < 30 || 46 ≤ p.1 || p.2 == p.1) && AV.idsOkL (fL L) (fL M) σ.tm && σ.ob.all fun p => fL M (fL L p.1) == p.1 && p.2.idsOk (fL L) (fL M)
def Rz.ren (R : Rz) (f g : Nat → Nat) : Rz := { root := fun b => f (R.root b), hd := fun m => R.hd (g m), bk := fun m => R.bk (g m) }
section
variable {R : Rz} {w : World} {f g : Nat → Nat}
theorem okS_ren (h0 : f 0 = 0) {S : List Nat} {b : Nat} (h : okS R S b) : okS (R.ren f g) (renS f S) b := by
  rcases h with h | h
  · left; show f (R.root b) = 0; rw [h, h0]
  · by_cases h2 : f (R.root b) = 0
    · exact .inl h2
    · have h2' : ¬ (R.ren f g).root b = 0 := h2
      exact .inr (mem_ddp.2 (List.mem_filter.2 ⟨List.mem_map.2 ⟨_, h, rfl⟩, by simpa using h2'⟩))
theorem VRc.ren (h0 : f 0 = 0) {c : CV} {u : Value} (h : VRc R w c u) (hi : c.idsOk f g = true) : VRc (R.ren f g) w (c.ren f) u := by
  cases c with
  | sc v => exact h
  | rd S e t xs => exact Rd.mono h fun b hb => okS_ren h0 hb
  | pt S t x k =>
    obtain ⟨b, q, us, rfl, h1, h2, h3, h4⟩ := h
    exact ⟨b, q, us, rfl, okS_ren h0 h1, h2, h3, h4.mono fun b hb => okS_ren h0 hb⟩
  | ow n => have : g (f n) = n := by simpa [CV.idsOk, CV.ids] using hi
            show u = R.hd (g (f n)); rw [this]; exact h
  | po n k => have : g (f n) = n := by simpa [CV.idsOk, CV.ids] using hi
              show u = .pointer (some ⟨R.bk (g (f n)), k, none⟩); rw [this]; exact h
  | pe n i wd k => have : g (f n) = n := by simpa [CV.idsOk, CV.ids] using hi
                   show u = .pointer (some ⟨R.bk (g (f n)), i * wd + k, none⟩); rw [this]; exact h
  | sub n i wd o e t xs =>
    have e1 : g (f n) = n := by simpa [CV.idsOk, CV.ids] using hi
    have e2 : (R.ren f g).bk (f n) = R.bk n := by show R.bk (g (f n)) = _; rw [e1]
    obtain ⟨h1, h2, h3⟩ := h
    refine ⟨by rw [e2]; exact h1, by rw [e2]; show f (R.root _) = _; rw [h2], ?_⟩
    rcases h3 with h3 | ⟨b, cap, cur, k1, k2, k3, k4, k5, k6, k7⟩
    · exact .inl h3
    · exact .inr ⟨b, cap, cur, k1, by show f (R.root b) = _; rw [k2], k3, k4, k5, k6, fun j hj => (k7 j hj).mono fun b hb => okS_ren h0 hb⟩
  | pi n i wd o j t x k =>
    have e1 : g (f n) = n := by simpa [CV.idsOk, CV.ids] using hi
    have e2 : (R.ren f g).bk (f n) = R.bk n := by show R.bk (g (f n)) = _; rw [e1]
    obtain ⟨b, l, cap, us, h1, h2, h3, h4, h5, h6, h7⟩ := h
    refine ⟨b, l, cap, us, by rw [e2]; exact h1, by rw [e2]; show f (R.root _) = _; rw [h2], by show f (R.root b) = _; rw [h3], h4, h5, h6, h7.mono fun b hb => ?_⟩
    rcases okS_ren (g := g) h0 hb with hb | hb
    · exact .inl hb
    · right
      have := (List.mem_filter.1 (mem_ddp.1 hb)).1
      simpa using this
  | fn q l =>
    have e1 : ∀ n ∈ l, g (f n) = n := by simpa [CV.idsOk, CV.ids] using hi
    have h : u = _ := h
    show u = .func (.func q) #[] ((l.map f).map fun n => Value.pointer (some ⟨R.bk (g n), 0, none⟩)).toArray
    rw [h, List.map_map]
    congr 2
    exact List.map_congr_left fun n hn => by simp only [Function.comp]; rw [e1 n hn]
  | bot => trivial
theorem VRs.ren (h0 : f 0 = 0) {l : List CV} {us : List Value} (h : VRs R w l us) (hi : l.all (CV.idsOk f g) = true) : VRs (R.ren f g) w (l.map (CV.ren f)) us := by
  induction l generalizing us with
  | nil => exact h
  | cons c l ih =>
    obtain ⟨u, us', rfl, h1, h2⟩ := h
    simp only [List.all_cons, Bool.and_eq_true] at hi
    exact ⟨u, us', rfl, h1.ren h0 hi.1, ih h2 hi.2⟩
mutual
theorem VR.ren (h0 : f 0 = 0) {x : AV} {u : Value} (h : VR R w x u) (hi : x.idsOk f g = true) : VR (R.ren f g) w (x.ren f) u := by
  match x with
  | .c x => simp only [VR, AV.ren, AV.idsOk] at h hi ⊢; exact VRc.ren h0 h hi
  | .agg l =>
    simp only [VR, AV.ren, AV.idsOk] at h hi ⊢
    obtain ⟨us, rfl, h1⟩ := h
    exact ⟨us, rfl, h1.ren h0 hi⟩
  | .tup l =>
    simp only [VR, AV.ren, AV.idsOk] at h hi ⊢
    obtain ⟨us, rfl, h1⟩ := h
    exact ⟨us, rfl, VRt.ren h0 h1 hi⟩
theorem VRt.ren (h0 : f 0 = 0) {l : List AV} {us : List Value} (h : VRt R w l us) (hi : AV.idsOkL f g l = true) : VRt (R.ren f g) w (AV.renL f l) us := by
  match l with
  | [] => simpa only [VRt, AV.renL] using h
  | x :: l =>
    simp only [VRt, AV.renL, AV.idsOkL, Bool.and_eq_true] at h hi ⊢
    obtain ⟨u, us', rfl, h1, h2⟩ := h
    exact ⟨u, us', rfl, VR.ren h0 h1 hi.1, VRt.ren h0 h2 hi.2⟩
end
theorem OR.ren (h0 : f 0 = 0) {n : Nat} {o : Ob} (h : OR R w n o) (hn : g (f n) = n) (hi : o.idsOk f g = true) : OR (R.ren f g) w (f n) (o.ren f) := by
  have e1 : (R.ren f g).hd (f n) = R.hd n := by show R.hd (g (f n)) = _; rw [hn]
  have e2 : (R.ren f g).bk (f n) = R.bk n := by show R.bk (g (f n)) = _; rw [hn]
  cases o with
  | box l =>
    obtain ⟨us, T, h1, h2, h3⟩ := h
    exact ⟨us, T, by rw [e2]; exact h1, by rw [e2]; show f (R.root _) = _; rw [h2], h3.ren h0 hi⟩
  | row e t xs S =>
    rcases h with ⟨h1, h2⟩ | ⟨cap, cur, h1, h2, h3, h4, h5, h6, h7⟩
    · exact .inl ⟨by rw [e1]; exact h1, h2⟩
    · exact .inr ⟨cap, cur, by rw [e1, e2]; exact h1, by rw [e2]; show f (R.root _) = _; rw [h2], by rw [e2]; exact h3, h4, h5, h6, fun i hi => (h7 i hi).mono fun b hb => okS_ren h0 hb⟩
  | tree e t xs h' =>
    rcases h with ⟨h1, h2⟩ | ⟨cap, cur, h1, h2, h3, h4, h5, h6, h7, h8⟩
    · exact .inl ⟨by rw [e1]; exact h1, h2⟩
    · exact .inr ⟨cap, cur, by rw [e1, e2]; exact h1, by rw [e2]; show f (R.root _) = _; rw [h2], by rw [e2]; exact h3, h4, h5, h6, fun i hi hh => (h7 i hi hh).mv fun c b l k hc hr hlt => ⟨rfl, by show f (R.root b) = _; rw [hr]⟩, by rw [e2]; exact h8⟩
theorem fL_fix {L : List (Nat × Nat)} (h : L.all (fun p => p.1 < 30 || 46 ≤ p.1 || p.2 == p.1) = true) {n : Nat} (h1 : 30 ≤ n) (h2 : n < 46) : fL L n = n := by
  induction L with
  | nil => rfl
  | cons p L ih =>
    simp only [List.all_cons, Bool.and_eq_true, Bool.or_eq_true, decide_eq_true_eq, beq_iff_eq] at h
    simp only [fL]
    split
    · rename_i e; subst e
      rcases h.1 with (h | h) | h
      · omega
      · omega
      · exact h
    · exact ih h.2
theorem fL_small {L : List (Nat × Nat)} (h : L.all (fun p => 5 < p.1) = true) {n : Nat} (hn : n ≤ 5) : fL L n = n := by
  induction L with
  | nil => rfl
  | cons p L ih =>
    simp only [List.all_cons, Bool.and_eq_true, decide_eq_true_eq] at h
    simp only [fL]
    rw [if_neg (by omega)]
    exact ih h.2
end
/-- A change of names: the state tells no more. -/
theorem Wk_ren (σ : St) (L M : List (Nat × Nat)) (h : σ.renOk L M = true) : Wk σ (σ.ren L) := fun R0 w0 R a w hs => by
  simp only [St.renOk, Bool.and_eq_true] at h
  obtain ⟨⟨⟨h1, hM⟩, h2⟩, h3⟩ := h
  have h0 := fL_small h1 (Nat.zero_le 5)
  refine ⟨R.ren (fL L) (fL M), ?_, VRt.ren h0 hs.tm h2, ?_, hs.os, hs.tape, hs.output, hs.grow, fun b hb hr => ?_, fun n k1 k2 => ?_, hs.defers⟩
  · have := (VRt.ren (g := fL M) h0 hs.tm h2).length
    rw [hs.size, ← hs.tm.length, this]; rfl
  · intro p hp
    simp only [St.ren, List.mem_map] at hp
    obtain ⟨q, hq, rfl⟩ := hp
    have h4 := List.all_eq_true.1 h3 q hq
    simp only [Bool.and_eq_true, beq_iff_eq] at h4
    exact OR.ren h0 (hs.ob q hq) h4.1 h4.2
  · obtain ⟨k1, k2⟩ := hs.keep b hb hr
    exact ⟨k1, by show fL L (R.root b) = _; rw [k2]; exact fL_small h1 hr⟩
  · obtain ⟨q1, q2⟩ := hs.pl n k1 k2
    have e := fL_fix hM k1 k2
    constructor
    · show R.hd (fL M n) = _; rw [e]; exact q1
    · show R.bk (fL M n) = _; rw [e]; exact q2
end Go.Proofs.Ythglggjgjlmhlaa
