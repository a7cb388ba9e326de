/-
 Patches drawn that are seldom not valid, signals, sizes: in plain terms.
-/
import Derived.Test.YtflaacndokbddaaGreatQb
namespace Go.Proofs.YtflaacndokbddaaGreat
open Go.RowKit
set_option linter.unusedSimpArgs false
set_option linter.unusedVariables false

theorem l07D_cost {inp out most : Int} {li : Bool} (ho : 0 ≤ out ∧ out ≤ 4) (hm : 1 ≤ most ∧ most ≤ 20) : Cost 1300 (l07D inp out most li) := by
 refine ((tabsIf_cost li).bnd (b := 1150) fun ts => ?_).le (by omega)
 refine (costPick (b := 1148) fun x h0 h1 _ => ?_).le (by omega)
 have h1 := h1 hm.1
 intro n s hs
 rcases hit : itD (nodeStep li inp ts.length) (1 + x).toNat [] s with ⟨ns, s1⟩
 have hs1 := (Cost.it (nodeStep_cost li inp ts.length) (1 + x).toNat []).at hs (by omega) hit
 obtain ⟨hl, _⟩ := nodes_ok _ ns s1 hit
 show srcOk n (bnd (itD (nodeStep li inp ts.length) (1 + x).toNat []) _ s).2
 rw [bnd_of hit]
 rcases hid : itI (delOne ns.length) ns.length ns s1 with ⟨ms, s2⟩
 have hs2 := (Cost.itI (delOne_cost ns.length) ns.length ns).at hs1 (by omega) hid
 rw [bnd_of hid]
 rcases hio : itD (snocD (outD ns.length)) out.toNat [] s2 with ⟨os, s3⟩
 have hs3 := (Cost.it (snocD_cost (outD_cost ns.length)) out.toNat []).at hs2 (by omega) hio
 rw [bnd_of hio]
 exact hs3.le (by omega)
theorem l07D_len {n : Nat} {inp out most : Int} {li : Bool} {s s' : SrcD} {p : PatchD} (hs : srcOk n s) (hn : 104 ≤ n) (hm : 1 ≤ most ∧ most ≤ 20) (e : l07D inp out most li s = (p, s')) :
 p.1 = inp ∧ p.2.1.length ≤ 2 ∧ 1 ≤ p.2.2.1.length ∧ (p.2.2.1.length : Int) ≤ most ∧ p.2.2.2.length = out.toNat ∧ ∀ nd ∈ p.2.2.1, arOk nd := by
 unfold l07D at e
 rcases ht : tabsIf li s with ⟨ts, s0⟩
 rw [bnd_of ht] at e
 have hl1 := tabsIf_len hs (by omega) ht
 have hs0 := (tabsIf_cost li).at hs (by omega) ht
 rcases hp : pickD most s0 with ⟨x, s1⟩
 rw [bnd_of hp] at e
 obtain ⟨_, hx0, hx1, _⟩ := pickD_at hs0 (by omega) hp
 have hx1 := hx1 hm.1
 rcases hit : itD (nodeStep li inp ts.length) (1 + x).toNat [] s1 with ⟨ns, s2⟩
 rw [bnd_of hit] at e
 obtain ⟨hl, ha⟩ := nodes_ok _ ns s2 hit
 rcases hid : itI (delOne ns.length) ns.length ns s2 with ⟨ms, s3⟩
 rw [bnd_of hid] at e
 obtain ⟨hl2, ha2⟩ := dels_ok ha _ ms s3 hid
 rcases hio : itD (snocD (outD ns.length)) out.toNat [] s3 with ⟨os, s4⟩
 rw [bnd_of hio] at e
 have hlo : os.length = out.toNat := by have := itD_len (m := outD ns.length) (k := out.toNat) (s := s3) (xs := []); rw [hio] at this; simpa using this
 simp only [Prod.mk.injEq] at e
 obtain ⟨e, _⟩ := e
 subst e
 exact ⟨rfl, hl1, by simp only; omega, by simp only; omega, hlo, ha2⟩
def bentP (p : PatchD) (k y : Int) : DM PatchD := fun s => match decide (y = 0) with
 | true => bnd (amongD [-1, 0, 5, 4]) (fun v s => ((v, p.2.1, p.2.2.1, p.2.2.2), s)) s
 | false => match decide (y = 1) with
   | true => bnd (amongD [(p.2.2.1.length : Int), -1, 0]) (fun v s => ((p.1, p.2.1, p.2.2.1, p.2.2.2 ++ [v]), s)) s
   | false => match decide (y = 2) with
     | true => bnd (l06B 1) (fun nd s => ((p.1, p.2.1, p.2.2.1.set k.toNat nd, p.2.2.2), s)) s
     | false => match decide (y = 3) with
       | true => ((p.1, p.2.1, p.2.2.1 ++ [((5, 2, 0, [(p.2.2.1.length : Int)]) : NodeD)], p.2.2.2), s)
       | false => match decide (y = 4) with
         | true => ((p.1, p.2.1 ++ [[1, 2, 3]], p.2.2.1, p.2.2.2), s)
         | false => match decide (y = 5) with
           | true => bnd (oneD 2) (fun o s => ((p.1, p.2.1, p.2.2.1 ++ List.replicate (24 - p.2.2.1.length) ((2, 1, 0, []) : NodeD) ++ (match o with | true => [((14, 5, 0, []) : NodeD)] | false => []), p.2.2.2), s)) s
           | false => (p, s)
theorem bentP_cost (p : PatchD) (k y : Int) : Cost 26 (bentP p k y) :=
 Cost.ite (((amongD_cost _).bnd (b := 0) fun _ => Cost.pure _).le (by omega)) (Cost.ite (((amongD_cost _).bnd (b := 0) fun _ => Cost.pure _).le (by omega)) (Cost.ite ((l06B_cost 1).bnd (b := 0) fun _ => Cost.pure _)
  (Cost.ite ((Cost.pure _).le (by omega)) (Cost.ite ((Cost.pure _).le (by omega)) (Cost.ite (((oneD_cost 2).bnd (b := 0) fun _ => Cost.pure _).le (by omega)) ((Cost.pure p).le (by omega)))))))
def l07B : DM PatchD := bnd (amongD [1, 1, 2, 0]) fun inp s => bnd (pickD 2) (fun x s => bnd (oneD 3) (fun o s => bnd (l07D inp (1 + x) 9 (o && decide (0 < inp))) (fun p s => bnd (pickD p.2.2.1.length) (fun k s => bnd (pickD 24) (fun y s => bentP p k y s) s) s) s) s) s
theorem l07B_cost : Cost 1400 l07B := by
 refine (costAmong (b := 1390) (by simp) fun inp _ => ?_).le (by omega)
 refine (costPick (b := 1380) fun x h0 h1 _ => ?_).le (by omega)
 have h1 := h1 (by omega)
 refine ((oneD_cost 3).bnd (b := 1370) fun o => ?_).le (by omega)
 refine ((l07D_cost (by omega) (by omega)).bnd (b := 40) fun p => ?_).le (by omega)
 refine ((pickD_cost _).bnd (b := 30) fun k => ?_).le (by omega)
 exact ((pickD_cost 24).bnd (b := 26) fun y => bentP_cost p k y).le (by omega)
def sigS (xs : List (List Int)) : DM (List (List Int)) := bnd (l03D 14) fun t s => (xs ++ [t], s)
theorem sigS_cost (xs : List (List Int)) : Cost 122 (sigS xs) := (l03D_cost (by omega) (by omega)).bnd fun _ => Cost.pure _
theorem sigS_len {k : Nat} {s : SrcD} {ts : List (List Int)} : ((itD sigS k ts s).1).length = ts.length + k := by
 induction k with
 | zero => rfl
 | succ k ih => simp only [itD, bnd, sigS, List.length_append, ih]; rfl
def l08I (n : Int) : DM (List (List Int)) := bnd (itD sigS (iMin n 5).toNat []) fun xs s => bnd (pickD 24) (fun y s => match decide (y = 0) with
 | true => (xs ++ [[]], s)
 | false => match decide (y = 1) && decide (0 < (xs.length : Int)) with
   | true => bnd l03Z (fun t s => (xs.set 0 t, s)) s
   | false => (xs, s)) s
theorem l08I_cost (n : Int) : Cost 760 (l08I n) := by
 have hm : (iMin n 5).toNat ≤ 5 := by unfold iMin; omega
 refine (((Cost.it sigS_cost (iMin n 5).toNat []).le (d := 610) (by omega)).bnd (b := 132) fun xs => ?_).le (by omega)
 exact (pickD_cost 24).bnd (b := 130) fun y => Cost.ite ((Cost.pure _).le (by omega)) (Cost.ite (l03Z_cost.bnd (b := 0) fun _ => Cost.pure _) ((Cost.pure _).le (by omega)))
def sizeS : DM (List Int) := bnd (pickD 6) fun n s => bnd (itD (snocD (pickD 8)) n.toNat []) (fun xs s => bnd (oneD 20) (fun o s => match o with
 | true => bnd (amongD [-1, 4000, 3999, 9223372036854775807]) (fun v s => (xs ++ [v], s)) s
 | false => (xs, s)) s) s
def ribD (cd : List Int) : (PatchD × List (List Int) × List Int) × SrcD := bnd l07B (fun p s => bnd (l08I p.1) (fun xs s => bnd sizeS (fun zs s => ((p, xs, zs), s)) s) s) (cd, 0, 0)
end Go.Proofs.YtflaacndokbddaaGreat
