/-
 The logic of trees: a part of a body that begins with a given region, by itself.
-/
import Derived.Test.YtiafipboklboeaaGp
namespace Go.Proofs.Ytiafipboklboeaa
open Go.RowKit
def regAt (n : Nat) : Code → Option Code
 | .region id ops d => match Nat.beq id n with | true => some (.region id ops d) | false => none
 | .seq a b => match regAt n a with | some r => some r | none => regAt n b
 | .cond _ a b => match regAt n a with | some r => some r | none => regAt n b
 | .block _ a => regAt n a
 | .loop a => regAt n a
 | .scope a => regAt n a
 | _ => none
def seqAt (n : Nat) : Code → Option Code
 | .seq a b => match a with
   | .region id _ _ => match Nat.beq id n with | true => some (.seq a b) | false => seqAt n b
   | a => match seqAt n a with | some r => some r | none => seqAt n b
 | .cond _ a b => match seqAt n a with | some r => some r | none => seqAt n b
 | .block _ a => seqAt n a
 | .loop a => seqAt n a
 | .scope a => seqAt n a
 | _ => none
theorem AWP_part {P : Program} {fn : Func} {code r : Code} {f : Code → Option Code} {σ : St} {Q : Exit → St → Prop} (hb : fn.body = some code) (hr : f code = some r) (h : AWP P r σ Q) : ∀ c, fn.body = some c → ∀ r', f c = some r' → AWP P r' σ Q := fun c hc r' hr' => by
 rw [hb] at hc; cases hc; rw [hr] at hr'; cases hr'; exact h
theorem aseq_take {P : Program} {G : TypeId → Option Ty} {T : Tab} {all l : List Oper} {σ : St} {K : St → Prop} (n : Nat) (hn : Nat.ble l.length n = true) (h : aseq P G T all (l.take n) σ K) : aseq P G T all l σ K := by
 rwa [List.take_of_length_le (Nat.le_of_ble_eq_true hn)] at h
end Go.Proofs.Ytiafipboklboeaa
