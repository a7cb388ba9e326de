/-
  Texts of this claim, joined (part 39). No condition beyond those of the theorems.
-/
import Derived.Test.YtenjbehedcegdaaGreatQ02
namespace Go.Proofs.YtenjbehedcegdaaGreat
open Go.RowKit
set_option linter.unusedSimpArgs false
set_option linter.unusedVariables false
def A8k (S':List Nat):CV→CV
 | .rd S e t xs=>match S.all (fun n=>S'.contains n) with|true=>.rd S' e t xs|false=>.rd S e t xs
 | c=>c
theorem B3L {R:Rz} {w:World} {S':List Nat} {c:CV} {u:Value} (h:VRc R w c u):VRc R w (A8k S' c) u:=by
 cases c with
 | rd S e t xs =>
   simp only[A8k]
   split
   · rename_i hs
     refine Rd.mono h fun b hb=>?_
     rcases hb with hb|hb
     · exact .inl hb
     · exact .inr (by simpa using List.all_eq_true.1 hs _ hb)
   · exact h
 | _=>exact h
def B2r (k:Nat) (S':List Nat):Ob→Ob
 | .box l=>match l[k]? with|some c=>.box (l.set k (A8k S' c))|none=>.box l
 | o=>o
def A3L (n k:Nat) (S':List Nat):List (Nat × Ob)→List (Nat × Ob)
 | []=>[]
 | p::l=>(if p.1=n then (p.1,B2r k S' p.2) else p)::A3L n k S' l
def St.weak (σ:St) (n k:Nat) (S':List Nat):St:=⟨σ.tm,A3L n k S' σ.ob⟩
theorem VRs.setW {R:Rz} {w:World} {c:CV}:∀{l:List CV} {us:List Value} {k:Nat},VRs R w l us→(∀u,us[k]?=some u→VRc R w c u)→VRs R w (l.set k c) us:=by
 intro l
 induction l with
 | nil=>intro us k h _;exact h
 | cons d l ih =>
   intro us k h hc
   obtain⟨u,us',rfl,h1,h2⟩:=h;cases k with
   | zero=>exact⟨u,us',rfl,hc u rfl,h2⟩
   | succ k=>exact⟨u,us',rfl,h1,ih h2 fun v hv=>hc v (by simpa using hv)⟩
theorem B7x (σ:St) (n k:Nat) (S':List Nat):Wk σ (σ.weak n k S'):=fun R0 w0 R a w hs=>by
 have hC:∀p o,OR R w p o→OR R w p (B2r k S' o):=by
  intro p o ho
  cases o with
  | row e t xs S=>exact ho
  | tree e t xs h=>exact ho
  | map t xs S=>exact ho
  | box l =>
    simp only[B2r]
    split
    · rename_i c hc
      obtain⟨us,T,h1,h2,h3⟩:=ho;refine⟨us,T,h1,h2,h3.setW fun u hu=>B3L ?_⟩
      obtain⟨u',hu',hv⟩:=h3.get k hc
      rw[hu] at hu';cases hu';exact hv
    · exact ho
 have hN:∀l,obsOk R w l→obsOk R w (A3L n k S' l):=by
  intro l
  induction l with
  | nil=>intro _ p hp;cases hp
  | cons q l ih =>
    intro hl p hp
    simp only[A3L,List.mem_cons] at hp
    rcases hp with rfl|hp
    · split
      · exact hC _ _ (hl q List.mem_cons_self)
      · exact hl q List.mem_cons_self
    · exact ih (fun p hp=>hl p (List.mem_cons_of_mem _ hp)) p hp
 exact⟨R,hs.size,hs.tm,hN _ hs.ob,hs.os,hs.tape,hs.output,hs.grow,hs.keep,hs.pl,hs.defers,hs.glob⟩
attribute [go_sem] A8k B2r A3L St.weak
end Go.Proofs.YtenjbehedcegdaaGreat
