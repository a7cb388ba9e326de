/-
  Texts of this claim, joined (part 12). No condition beyond those of the theorems.
-/
import Derived.Test.YthhogcknkimijaaDoorV11
namespace Go.Proofs.YthhogcknkimijaaDoor
set_option linter.unusedVariables false
set_option linter.unusedSimpArgs false
/-! The parts of a text between bytes. -/
def splB (c:UInt8):List UInt8→List (List UInt8)
 | []=>[[]]
 | b :: l => match decide (b = c) with
   | true=>[]::splB c l
   | false=>((b::(splB c l).headD [])::(splB c l).drop 1)
theorem splB_ne (c:UInt8) (l:List UInt8):splB c l≠[]:=by
 cases l with
 | nil=>simp[splB]
 | cons b l=>unfold splB;split<;>simp
theorem splB_none {c:UInt8}:∀{l:List UInt8},c ∉ l→splB c l=[l]:=by
 intro l
 induction l with
 | nil=>intro _;rfl
 | cons b l ih =>
   intro h
   unfold splB
   rw[decide_eq_false (fun e=>h (by rw[e];exact List.mem_cons_self)),ih (fun hm=>h (List.mem_cons_of_mem _ hm))]
   rfl
theorem splB_app {c:UInt8} {r:List UInt8}:∀{l:List UInt8},c ∉ l→splB c (l++c::r)=l::splB c r:=by
 intro l
 induction l with
 | nil=>intro _;rw[List.nil_append,splB,decide_eq_true rfl]
 | cons b l ih =>
   intro h
   rw[List.cons_append,splB,decide_eq_false (fun e=>h (by rw[e];exact List.mem_cons_self)),ih (fun hm=>h (List.mem_cons_of_mem _ hm))]
   rfl
def cutA (c:UInt8):List UInt8→Option (List UInt8 × List UInt8)
 | []=>none
 | b :: l => match decide (b = c) with
   | true=>some ([],l)
   | false=>(cutA c l).map fun x=>(b::x.1,x.2)
theorem cutA_app {c:UInt8} {r:List UInt8}:∀{l:List UInt8},c ∉ l→cutA c (l++c::r)=some (l,r):=by
 intro l
 induction l with
 | nil=>intro _;rw[List.nil_append,cutA,decide_eq_true rfl]
 | cons b l ih =>
   intro h
   rw[List.cons_append,cutA,decide_eq_false (fun e=>h (by rw[e];exact List.mem_cons_self)),ih (fun hm=>h (List.mem_cons_of_mem _ hm))]
   rfl
/-! Numerals. -/
def dgB (b:UInt8):Bool:=decide (48≤b.toNat) && decide (b.toNat≤57)
def valD (l:List UInt8):Nat:=l.foldl (fun a b=>10 * a+(b.toNat - 48)) 0
theorem valD_snoc (l:List UInt8) (b:UInt8):valD (l++[b])=10 * valD l+(b.toNat - 48):=by unfold valD;rw[List.foldl_append];rfl
theorem dig_nat {d:Nat} (h:d < 10):(UInt8.ofNat (48+d)).toNat=48+d:=by
 rw[UInt8.toNat_ofNat'];omega
theorem dgs_ind:∀(k u:Nat),u < k→(Lib.decDigits u).all dgB=true∧valD (Lib.decDigits u)=u∧Lib.decDigits u≠[]:=by
 intro k
 induction k with
 | zero=>intro u h;omega
 | succ k ih =>
   intro u h
   rw[Lib.decDigits]
   by_cases c:u < 10
   · rw[dif_pos c]
     refine⟨?_,?_,by simp⟩
     · simp only[List.all_cons,List.all_nil,Bool.and_true,dgB]
       rw[dig_nat c,decide_eq_true (by omega),decide_eq_true (by omega)];rfl
     · show 10 * 0+((UInt8.ofNat (48+u)).toNat - 48)=u
       rw[dig_nat c];omega
   · rw[dif_neg c]
     obtain⟨h1,h2,h3⟩:=ih (u / 10) (by omega)
     have hm:u % 10 < 10:=Nat.mod_lt _ (by omega)
     refine⟨?_,?_,by simp⟩
     · rw[List.all_append,h1]
       simp only[List.all_cons,List.all_nil,Bool.and_true,Bool.true_and,dgB]
       rw[dig_nat hm,decide_eq_true (by omega),decide_eq_true (by omega)];rfl
     · rw[valD_snoc,h2,dig_nat hm];omega
theorem dgs_all (u:Nat):(Lib.decDigits u).all dgB=true:=(dgs_ind (u+1) u (by omega)).1
theorem dgs_val (u:Nat):valD (Lib.decDigits u)=u:=(dgs_ind (u+1) u (by omega)).2.1
theorem dgs_ne (u:Nat):Lib.decDigits u≠[]:=(dgs_ind (u+1) u (by omega)).2.2
theorem dgs_len {u:Nat}:∀{k:Nat},1≤k→u < 10 ^ k→(Lib.decDigits u).length≤k:=by
 intro k hk
 have key:∀(k u:Nat),u < 10 ^ (k+1)→(Lib.decDigits u).length≤k+1:=by
  intro k
  induction k with
  | zero=>intro u h;rw[Lib.decDigits,dif_pos (by omega)];exact Nat.le_refl _
  | succ k ih =>
    intro u h
    rw[Lib.decDigits]
    by_cases c:u < 10
    · rw[dif_pos c];simp
    · rw[dif_neg c,List.length_append]
      have:=ih (u / 10) (by rw[Nat.pow_succ] at h;omega)
      simp only[List.length_singleton];omega
 intro h
 have:=key (k - 1) u (by rw[show k - 1+1=k by omega];exact h)
 omega
theorem itoa_nn {n:Int} (h:0≤n):Lib.itoa n=Lib.decDigits n.toNat:=by unfold Lib.itoa;rw[if_neg (by omega)]
theorem dg_ne {l:List UInt8} (h:l.all dgB=true) {c:UInt8} (hc:¬(48≤c.toNat∧c.toNat≤57)):c ∉ l:=fun hm=>by
 have:=List.all_eq_true.1 h c hm
 simp only[dgB,Bool.and_eq_true,decide_eq_true_eq] at this
 exact hc this
theorem itoa_no {n:Int} (h:0≤n) {c:UInt8} (hc:¬(48≤c.toNat∧c.toNat≤57)):c ∉ Lib.itoa n:=by rw[itoa_nn h];exact dg_ne (dgs_all _) hc
def intR (s:List UInt8):Int × Bool:=match decide (s.headD 0=45) with
 | true => match decide (1 ≤ (s.drop 1).length) && (decide ((s.drop 1).length ≤ 10) && (s.drop 1).all dgB) with
   | true=>(-(valD (s.drop 1):Int),true)
   | false=>(0,false)
 | false => match decide (1 ≤ s.length) && (decide (s.length ≤ 10) && s.all dgB) with
   | true=>((valD s:Int),true)
   | false=>(0,false)
theorem intR_itoa {n:Int} (h:0≤n) (h2:n < 10000000000):intR (Lib.itoa n)=(n,true):=by
 rw[itoa_nn h]
 have h1:=dgs_all n.toNat
 have hn:=dgs_ne n.toNat
 have hl:=dgs_len (u:=n.toNat) (k:=10) (by omega) (by omega)
 have hh:¬(Lib.decDigits n.toNat).headD 0=45:=by
  cases e:Lib.decDigits n.toNat with
  | nil=>exact absurd e hn
  | cons b l =>
    rw[e] at h1
    simp only[List.all_cons,Bool.and_eq_true,dgB,decide_eq_true_eq] at h1
    intro hb
    have hb:b=45:=hb
    rw[hb] at h1
    exact absurd h1.1.1 (by decide)
 have hl1:1≤(Lib.decDigits n.toNat).length:=by
  cases e:Lib.decDigits n.toNat with
  | nil=>exact absurd e hn
  | cons b l=>simp
 unfold intR
 rw[decide_eq_false hh,decide_eq_true hl1,decide_eq_true hl,h1,dgs_val]
 simp only[Bool.and_self]
 rw[Int.toNat_of_nonneg h]
/-! The text. -/
def segT (x:Int × Int):List UInt8:=62::(Lib.itoa x.2++58::Lib.itoa x.1)
def segsT (xs:List (Int × Int)):List UInt8:=xs.flatMap fun x=>32::segT x
def textE (s:Int) (xs:List (Int × Int)) (r:Int):List UInt8:=Lib.itoa s++(segsT xs++32::46::Lib.itoa r)
theorem segsT_snoc (xs:List (Int × Int)) (x:Int × Int):segsT (xs++[x])=segsT xs++32::segT x:=by unfold segsT;rw[List.flatMap_append];simp
section
variable {s r:Int} {xs:List (Int × Int)} (hs:0≤s∧s≤65536) (hx:∀x∈xs,0≤x.1∧x.1≤65536∧0≤x.2∧x.2≤65536) (hr:0≤r∧r≤65536)
theorem seg_no {x:Int × Int} (h1:0≤x.1) (h2:0≤x.2):(32:UInt8) ∉ segT x:=fun hm=>by
 unfold segT at hm
 rcases List.mem_cons.1 hm with h|h
 · exact absurd h (by decide)
 · rcases List.mem_append.1 h with h|h
   · exact itoa_no h2 (by decide) h
   · rcases List.mem_cons.1 h with h|h
     · exact absurd h (by decide)
     · exact itoa_no h1 (by decide) h
include hx hr in
theorem spl_segs {l:List UInt8} (hl:(32:UInt8) ∉ l):splB 32 (l++(segsT xs++32::46::Lib.itoa r))=l::(xs.map segT++[46::Lib.itoa r]):=by
 induction xs generalizing l with
 | nil =>
   have hn:(32:UInt8) ∉ 46::Lib.itoa r:=fun hm=>by
    rcases List.mem_cons.1 hm with h|h
    · exact absurd h (by decide)
    · exact itoa_no hr.1 (by decide) h
   show splB 32 (l++32::46::Lib.itoa r)=_
   rw[splB_app hl,splB_none hn];rfl
 | cons x xs ih =>
   have h:=hx x List.mem_cons_self
   have e:l++(segsT (x::xs)++32::46::Lib.itoa r)=l++32::(segT x++(segsT xs++32::46::Lib.itoa r)):=by
    unfold segsT;rw[List.flatMap_cons];simp only[List.cons_append,List.append_assoc]
   rw[e,splB_app hl,ih (fun y hy=>hx y (List.mem_cons_of_mem _ hy)) (seg_no h.1 h.2.2.1)]
   rfl
include hs hx hr in
theorem spl_text:splB 32 (textE s xs r)=Lib.itoa s::(xs.map segT++[46::Lib.itoa r]):=spl_segs hx hr (itoa_no hs.1 (by decide))
end
def segR (w:List UInt8):(Int × Int) × Bool:=match cutA 58 (w.drop 1) with
 | some x=>(((intR x.2).1,(intR x.1).1),(intR x.1).2 && (intR x.2).2)
 | none=>((0,0),false)
theorem segR_text {x:Int × Int} (h1:0≤x.1∧x.1≤65536) (h2:0≤x.2∧x.2≤65536):segR (segT x)=(x,true):=by
 unfold segR segT
 rw[List.drop_succ_cons,List.drop_zero,cutA_app (itoa_no h2.1 (by decide))]
 simp only
 rw[intR_itoa h1.1 (by omega),intR_itoa h2.1 (by omega)]
 rfl
end Go.Proofs.YthhogcknkimijaaDoor
