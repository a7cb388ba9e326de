/-
  The logic of trees, fourteenth part: a state that tells less, found by comparing.
-/
import Derived.Test.YtpngabaeekjhmaaTm
namespace Go.Proofs.Ytpngabaeekjhmaa
open Go.RowKit
set_option linter.unusedSimpArgs false
set_option linter.unusedVariables false

def AV.isBot : AV → Bool
  | .c .bot => true
  | _ => false
def liveAt : Nat → List AV → List Nat
  | _, [] => []
  | i, x :: l => if x.isBot then liveAt (i + 1) l else i :: liveAt (i + 1) l
def pCV : CV → CV → List (Nat × Nat)
  | .rd S _ _ _, .rd S' _ _ _ => S.map fun n => (n, S'.headD 0)
  | .pt S _ _ _, .pt S' _ _ _ => S.map fun n => (n, S'.headD 0)
  | .ow n, .ow m => [(n, m)]
  | .po n _, .po m _ => [(n, m)]
  | .pe n _ _ _, .pe m _ _ _ => [(n, m)]
  | _, _ => []
def pCVs : List CV → List CV → List (Nat × Nat)
  | x :: l, y :: l' => pCV x y ++ pCVs l l'
  | _, _ => []
mutual
def pAV : AV → AV → List (Nat × Nat)
  | .c x, .c y => pCV x y
  | .agg l, .agg l' => pCVs l l'
  | .tup l, .tup l' => pAVs l l'
  | _, _ => []
def pAVs : List AV → List AV → List (Nat × Nat)
  | x :: l, y :: l' => pAV x y ++ pAVs l l'
  | _, _ => []
end
def pOb : Option Ob → Option Ob → List (Nat × Nat)
  | some (.box l), some (.box l') => pCVs l l'
  | some (.row _ _ _ S), some (.row _ _ _ S') => S.map fun n => (n, S'.headD 0)
  | _, _ => []
def pObs (σ τ : St) : List (Nat × Nat) → List (Nat × Nat)
  | [] => []
  | (n, m) :: l => pOb (σ.look n) (τ.look m) ++ pObs σ τ l
def swaps : List (Nat × Nat) → List (Nat × Nat)
  | [] => []
  | (a, b) :: l => (b, a) :: swaps l
def fsts : List (Nat × Nat) → List Nat
  | [] => []
  | (a, _) :: l => a :: fsts l
def prs (σ τ : St) : List (Nat × Nat) := pAVs σ.tm τ.tm ++ pObs σ τ (pAVs σ.tm τ.tm) ++ pObs σ τ (pObs σ τ (pAVs σ.tm τ.tm))
/-- The state, as far as τ speaks of it, under τ's names. -/
def St.to (σ τ : St) : St := (σ.keep (liveAt 0 τ.tm) (fsts (prs σ τ))).ren (prs σ τ)
def St.toOk (σ τ : St) : Bool := (σ.keep (liveAt 0 τ.tm) (fsts (prs σ τ))).renOk (prs σ τ) (swaps (prs σ τ))
def obsIn : List (Nat × Ob) → List (Nat × Ob) → Prop
  | [], _ => True
  | p :: l, ob => lookOb p.1 ob = some p.2 ∧ obsIn l ob
theorem obsIn_mem {l ob : List (Nat × Ob)} (h : obsIn l ob) : ∀ p ∈ l, p ∈ ob := by
  induction l with
  | nil => intro p hp; cases hp
  | cons q l ih =>
    intro p hp
    rcases List.mem_cons.1 hp with rfl | hp
    · exact lookOb_mem h.1
    · exact ih h.2 p hp
theorem Wk_to {σ τ : St} (h : σ.toOk τ = true) (h2 : (σ.to τ).tm = τ.tm ∧ obsIn τ.ob (σ.to τ).ob) : Wk σ τ := by
  refine (Wk_keep σ (liveAt 0 τ.tm) (fsts (prs σ τ))).trans ((Wk_ren _ (prs σ τ) (swaps (prs σ τ)) h).trans ?_)
  intro R0 w0 R a w hs
  refine ⟨R, ?_, ?_, fun p hp => hs.ob p (obsIn_mem h2.2 p hp), hs.os, hs.tape, hs.output, hs.grow, hs.keep, hs.defers⟩
  · rw [← h2.1]; exact hs.size
  · rw [← h2.1]; exact hs.tm
/-- What a loop's round has to leave. -/
theorem loop_next {ι : Type} {I : ι → St} {μ : ι → Nat} {i : ι} {σ : St} (j : ι) (h : σ.toOk (I j) = true) (h2 : (σ.to (I j)).tm = (I j).tm ∧ obsIn (I j).ob (σ.to (I j)).ob) (hm : μ j < μ i) : ∃ j, Wk σ (I j) ∧ μ j < μ i :=
  ⟨j, Wk_to h h2, hm⟩
/-- The set of the walk. -/
theorem vc_true (p : Prop) (h : p) : p := h
attribute [go_sem] aseq aop pureRes St.ev St.get St.fin St.look lookOb thenA aLit aIdx aLoad aStore aBin abin eqCv aUn aPick aLen aApp aMake
attribute [go_sem] aSlice aField aPart aExt aNil aBox aAlloc aBuild aCall aMm aConv lenOf rowOf srcOf elSrc place cellsA cvOne elems rds
attribute [go_sem] castD_eq castT_eq uni nm cellsOf moved isPtr splice newBox Ty.w Ty.dflt Value.oneCell' killObs AV.killL AV.kill CV.kill CV.hit CV.srcs CV.ids Ob.kill
attribute [go_sem] List.getElem?_cons_zero List.getElem?_cons_succ List.set_cons_zero List.set_cons_succ Option.getD_some List.isEmpty_nil List.isEmpty_cons Bool.and_self Bool.true_and Bool.and_true Bool.false_and Bool.and_false if_true if_false ite_true ite_false Bool.false_eq_true List.nil_append List.cons_append List.append_nil
attribute [go_sem] List.map_cons List.map_nil List.any_cons List.any_nil List.all_cons List.all_nil List.filter_cons List.filter_nil List.contains_cons List.contains_nil Bool.or_false Bool.false_or Bool.or_self true_and and_true and_self Option.some.injEq beq_self_eq_true BEq.rfl dite_true
attribute [go_sem] List.take_zero List.take_succ_cons List.drop_succ_cons List.drop_zero List.take_nil List.drop_nil List.length_cons List.length_nil decide_true decide_false Option.isSome_some Option.map_some List.range_zero not_true_eq_false not_false_eq_true Nat.zero_mul Nat.one_mul Nat.mul_one Nat.zero_add Nat.add_zero
attribute [go_sem] Option.getD_none ne_eq List.range_succ Bool.not_true Bool.not_false resVs resV finL finA finC Fin or_false false_or or_self true_or or_true false_and and_false RetQ inBlockA St.setb gval gnone St.to St.keep keepAt liveAt
attribute [go_sem] AV.isBot prs pAVs pAV pCV pCVs pObs pOb swaps fsts St.ren AV.renL AV.ren CV.ren Ob.ren renS ddp fL obsIn avs
attribute [go_sem] PK.av Ty.av decs decV decP outAll outL outA outC outO outOs outN poolOf nms Ty.flat Ty.rows rowsOf fillA partsOne asIx
attribute [go_sem] List.headD_cons List.headD_nil List.getElem?_toArray List.replicate_succ List.replicate_zero List.getElem?_nil AV.c.injEq CV.sc.injEq CV.rd.injEq CV.ow.injEq CV.po.injEq Value.int.injEq Value.bool.injEq Ob.row.injEq Ob.box.injEq Prod.mk.injEq List.cons.injEq heq_eq_eq List.flatMap_cons List.flatMap_nil
attribute [go_sem] bne_self_eq_false Function.comp_apply List.filterMap_cons_some List.filterMap_nil id_eq List.map_append Option.isSome_none
attribute [go_sem ↓] gcase_tt gcase_ff gcase_tf gcase_ft
attribute [go_sem] true_implies false_implies implies_true
end Go.Proofs.Ytpngabaeekjhmaa
