/-
  Texts of this claim, joined (part 17). No condition beyond those of the theorems.
-/
import Derived.Test.YthhogcknkimijaaDoorV12
import Derived.Lib.SplitLaws
import Derived.Lib.ParseIntB
namespace Go.Proofs.YthhogcknkimijaaDoor
set_option linter.unusedVariables false
set_option linter.unusedSimpArgs false
theorem pre_one (c b:UInt8) (l:List UInt8):[c].isPrefixOf (b::l)=decide (b=c):=by
 rw[List.isPrefixOf_cons_cons,List.isPrefixOf_nil_left,Bool.and_true]
 by_cases h:b=c
 · subst h;simp
 · rw[decide_eq_false h];exact beq_eq_false_iff_ne.2 fun e=>h e.symm
theorem idx_none {c:UInt8}:∀{l:List UInt8},c ∉ l→Lib.index l [c]=-1:=by
 intro l
 induction l with
 | nil=>intro _;rfl
 | cons b l ih =>
   intro h
   unfold Lib.index
   rw[pre_one,decide_eq_false (fun e=>h (by rw[e];exact List.mem_cons_self)),ih (fun hm=>h (List.mem_cons_of_mem _ hm))]
   rfl
theorem idx_app {c:UInt8} {r:List UInt8}:∀{l:List UInt8},c ∉ l→Lib.index (l++c::r) [c]=(l.length:Int):=by
 intro l
 induction l with
 | nil=>intro _;rw[List.nil_append,Lib.index,pre_one,decide_eq_true rfl];rfl
 | cons b l ih =>
   intro h
   rw[List.cons_append,Lib.index,pre_one,decide_eq_false (fun e=>h (by rw[e];exact List.mem_cons_self)),ih (fun hm=>h (List.mem_cons_of_mem _ hm))]
   have:((l.length:Int) == -1)=false:=by rw[beq_eq_false_iff_ne];omega
   rw[this]
   simp
theorem split_one (c:UInt8):∀(k:Nat) (s:List UInt8),s.length < k→Lib.split s [c]=splB c s:=by
 intro k
 induction k with
 | zero=>intro s h;omega
 | succ k ih =>
   intro s h
   by_cases hc:c∈s
   · obtain⟨l,r,e,hl⟩:=List.eq_append_cons_of_mem hc
     subst e
     have hi:=idx_app (r:=r) hl
     have hd:(l++c::r).drop (l.length+1)=r:=by
      rw[show l.length+1=l.length+1 from rfl,←List.drop_drop,List.drop_left];rfl
     have hcnt:=Lib.count_hit (by simp) hi
     rw[show ([c]:List UInt8).length=1 from rfl,hd] at hcnt
     unfold Lib.split
     rw[hcnt,Nat.add_comm,Lib.splitK,hi]
     have hm:((l.length:Int) == -1)=false:=by rw[beq_eq_false_iff_ne];omega
     rw[hm]
     simp only[Int.toNat_natCast,Nat.add_zero,List.length_cons,List.length_nil,Nat.zero_add,Bool.false_eq_true,if_false]
     rw[hd,List.take_left,splB_app hl]
     have:=ih r (by rw[List.length_append,List.length_cons] at h;omega)
     unfold Lib.split at this
     rw[this]
   · unfold Lib.split
     rw[Lib.count_miss (idx_none hc),splB_none hc];rfl
theorem lib_split (s:List UInt8) (c:UInt8):Lib.split s [c]=splB c s:=split_one c (s.length+1) s (by omega)
theorem lib_cut (s:List UInt8) (c:UInt8):Lib.cut s [c]=match cutA c s with|some x=>(x.1,x.2,true)|none=>(s,[],false):=by
 unfold Lib.cut
 by_cases hc:c∈s
 · obtain⟨l,r,e,hl⟩:=List.eq_append_cons_of_mem hc
   subst e
   have hd:(l++c::r).drop (l.length+1)=r:=by
    rw[←List.drop_drop,List.drop_left];rfl
   rw[idx_app hl,if_pos (by omega),cutA_app hl]
   simp only[Int.toNat_natCast,List.length_cons,List.length_nil,Nat.zero_add]
   rw[hd,List.take_left]
 · rw[idx_none hc,if_neg (by omega)]
   have:∀{l:List UInt8},c ∉ l→cutA c l=none:=by
    intro l
    induction l with
    | nil=>intro _;rfl
    | cons b l ih =>
      intro h
      unfold cutA
      rw[decide_eq_false (fun e=>h (by rw[e];exact List.mem_cons_self)),ih (fun hm=>h (List.mem_cons_of_mem _ hm))]
      rfl
   rw[this hc]
/-! The program's reading of a numeral. -/
def valA (a:Nat) (l:List UInt8):Nat:=l.foldl (fun a b=>10 * a+(b.toNat - 48)) a
theorem valA_le (l:List UInt8):∀a,a≤valA a l:=by
 induction l with
 | nil=>intro a;exact Nat.le_refl _
 | cons b l ih=>intro a;have:=ih (10 * a+(b.toNat - 48));show a≤valA (10 * a+(b.toNat - 48)) l;omega
theorem parseU {M:Nat} (hM:M≤18446744073709551615):∀{l:List UInt8} (a:Nat),l.all dgB=true→valA a l≤M→valA a l < 18446744073709551610→Lib.parseUintM M a l=.ok (valA a l):=by
 intro l
 induction l with
 | nil=>intro a _ _ _;rfl
 | cons b l ih =>
   intro a h h1 h2
   simp only[List.all_cons,Bool.and_eq_true,dgB,decide_eq_true_eq] at h
   obtain⟨⟨d1,d2⟩,h3⟩:=h
   have hl:=valA_le l (10 * a+(b.toNat - 48))
   have e:valA a (b::l)=valA (10 * a+(b.toNat - 48)) l:=rfl
   rw[e] at h1 h2 ⊢
   unfold Lib.parseUintM
   rw[if_pos ⟨d1,d2⟩,if_neg (by omega),if_neg (by omega),show a * 10+(b.toNat - 48)=10 * a+(b.toNat - 48) by omega]
   exact ih _ h3 h1 h2
theorem parse_itoa {n:Int} (h:0≤n) (h2:n < 1000000000000000000):Lib.parseIntB 64 (Lib.itoa n)=.ok n:=by
 rw[itoa_nn h]
 have h1:=dgs_all n.toNat
 have hv:=dgs_val n.toNat
 have hn:=dgs_ne n.toNat
 generalize Lib.decDigits n.toNat=l at *
 cases l with
 | nil=>exact absurd rfl hn
 | cons b l =>
   have hd:=h1
   simp only[List.all_cons,Bool.and_eq_true,dgB,decide_eq_true_eq] at hd
   have hva:valA 0 (b::l)=n.toNat:=hv
   have hp:=parseU (M:=2 ^ 64 - 1) (by decide) 0 h1 (by rw[hva];omega) (by rw[hva];omega)
   unfold Lib.parseIntB
   simp only
   rw[if_neg (show ¬(b.toNat=43∨b.toNat=45) by omega)]
   have hu:Lib.parseUintB 64 (b::l)=.ok n.toNat:=by unfold Lib.parseUintB;rw[if_neg (by simp),hp,hva]
   rw[hu]
   simp only
   rw[if_neg (by omega),if_neg (by omega),if_neg (show ¬b.toNat=45 by omega),Int.toNat_of_nonneg h]
def rdD (s:List UInt8):Int × Bool:=match Lib.parseIntB 64 s with
 | .ok n => match decide (Lib.itoa n = s) && decide ((Lib.trimPrefix s [45]).length ≤ 18) with
   | true=>(n,true)
   | false=>(0,false)
 | _=>(0,false)
theorem rdD_itoa {n:Int} (h:0≤n) (h2:n < 1000000000000000000):rdD (Lib.itoa n)=(n,true):=by
 have hl:(Lib.trimPrefix (Lib.itoa n) [45]).length≤18:=by
  rw[itoa_nn h]
  have:=dgs_len (u:=n.toNat) (k:=18) (by omega) (by omega)
  unfold Lib.trimPrefix
  split
  · rw[List.length_drop];omega
  · exact this
 unfold rdD
 rw[parse_itoa h h2]
 simp only[decide_true]
 rw[decide_eq_true hl]
 rfl
/-! Both ways to read an envelope. -/
abbrev EnvT:=Int × List (Int × Int) × Int
def tE (e:EnvT):List UInt8:=textE e.1 e.2.1 e.2.2
def e0:EnvT:=(0,[],0)
def okE (e:EnvT):Prop:=(0≤e.1∧e.1≤65536)∧(∀x∈e.2.1,0≤x.1∧x.1≤65536∧0≤x.2∧x.2≤65536)∧(0≤e.2.2∧e.2.2≤65536)∧e.2.1.length≤8
def midL (w:List (List UInt8)):List (List UInt8):=(w.drop 1).dropLast
def lastW (w:List (List UInt8)):List UInt8:=w.getD (w.length - 1) []
section
variable (ok:EnvT→Bool)
def endE (s:List UInt8) (e:EnvT) (b:Bool):EnvT × Bool:=match b && (ok e && decide (tE e=s)) with|true=>(e,true)|false=>(e0,false)
def rdA (s:List UInt8):EnvT × Bool:=match decide (2≤(splB 32 s).length) && (decide ((splB 32 s).length≤10) && decide (2≤(lastW (splB 32 s)).length)) with
 | false=>(e0,false)
 | true => match (midL (splB 32 s)).all fun w => (segR w).2 with
   | false=>(e0,false)
   | true=>endE ok s ((intR ((splB 32 s).getD 0 [])).1,(midL (splB 32 s)).map (fun w=>(segR w).1),(intR ((lastW (splB 32 s)).drop 1)).1) ((intR ((splB 32 s).getD 0 [])).2 && (intR ((lastW (splB 32 s)).drop 1)).2)
def wrdL (s:List UInt8):List (List UInt8):=(splB 32 s).filter fun w=>!decide (w=[])
def sgP (w:List UInt8):(Int × Int) × Bool:=match cutA 58 (Lib.trimPrefix w [62]) with
 | some x=>(((rdD x.2).1,(rdD x.1).1),Lib.hasPrefix w [62] && ((rdD x.1).2 && (rdD x.2).2))
 | none=>(((rdD []).1,(rdD (Lib.trimPrefix w [62])).1),false)
def rdP (s:List UInt8):EnvT × Bool:=match decide (2≤(wrdL s).length) with
 | false=>(e0,false)
 | true => match (midL (wrdL s)).all fun w => (sgP w).2 with
   | false=>(e0,false)
   | true=>endE ok s ((rdD ((wrdL s).getD 0 [])).1,(midL (wrdL s)).map (fun w=>(sgP w).1),(rdD (Lib.trimPrefix (lastW (wrdL s)) [46])).1) ((rdD ((wrdL s).getD 0 [])).2 && (rdD (Lib.trimPrefix (lastW (wrdL s)) [46])).2)
theorem endE_t {s:List UInt8} {e:EnvT} (h:ok e=true) (ht:tE e=s):endE ok s e true=(e,true):=by unfold endE;rw[h,decide_eq_true ht];rfl
theorem endE_x {s:List UInt8} {e:EnvT} {b:Bool}:(∃f,endE ok s e b=(f,true)∧ok f=true∧tE f=s)∨endE ok s e b=(e0,false):=by
 unfold endE
 cases h:b && (ok e && decide (tE e=s)) with
 | false=>exact .inr rfl
 | true =>
   simp only[Bool.and_eq_true,decide_eq_true_eq] at h
   exact .inl ⟨e,rfl,h.2.1,h.2.2⟩
theorem rdA_x (s:List UInt8):(∃f,rdA ok s=(f,true)∧ok f=true∧tE f=s)∨rdA ok s=(e0,false):=by
 unfold rdA
 split
 · exact .inr rfl
 · split
   · exact .inr rfl
   · exact endE_x ok
theorem rdP_x (s:List UInt8):(∃f,rdP ok s=(f,true)∧ok f=true∧tE f=s)∨rdP ok s=(e0,false):=by
 unfold rdP
 split
 · exact .inr rfl
 · split
   · exact .inr rfl
   · exact endE_x ok
theorem mid_of {a:List UInt8} {m:List (List UInt8)} {l:List UInt8}:midL (a::(m++[l]))=m:=by unfold midL;rw[List.drop_succ_cons,List.drop_zero,List.dropLast_concat]
theorem last_of {a:List UInt8} {m:List (List UInt8)} {l:List UInt8}:lastW (a::(m++[l]))=l:=by
 unfold lastW
 rw[List.length_cons,List.length_append,List.length_singleton,Nat.add_sub_cancel,List.getD_cons_succ,List.getD_eq_getElem?_getD,List.getElem?_append_right (Nat.le_refl _),Nat.sub_self]
 rfl
variable (hok:∀e,ok e=true→okE e)
include hok
theorem rdA_text {e:EnvT} (h:ok e=true):rdA ok (tE e)=(e,true):=by
 obtain⟨s,xs,r⟩:=e
 obtain⟨h1,h2,h3,h4⟩:=hok _ h
 simp only at h1 h2 h3 h4
 have hw:splB 32 (tE (s,xs,r))=Lib.itoa s::(xs.map segT++[46::Lib.itoa r]):=spl_text h1 h2 h3
 have hn:Lib.itoa r≠[]:=by rw[itoa_nn h3.1];exact dgs_ne _
 have hl2:2≤(46::Lib.itoa r).length:=by
  cases g:Lib.itoa r with
  | nil=>exact absurd g hn
  | cons b l=>simp
 have hid:(xs.map segT).map (fun w=>(segR w).1)=xs:=by
  rw[List.map_map]
  have:xs.map (fun x=>(segR (segT x)).1)=xs.map id:=List.map_congr_left fun x hm=>by
   obtain⟨a,b,c,d⟩:=h2 x hm
   rw[segR_text ⟨a,b⟩ ⟨c,d⟩];rfl
  rw[List.map_id] at this
  exact this
 have hall:((xs.map segT).all fun w=>(segR w).2)=true:=by
  rw[List.all_map]
  exact List.all_eq_true.2 fun x hm=>by
   obtain⟨a,b,c,d⟩:=h2 x hm
   show (segR (segT x)).2=true
   rw[segR_text ⟨a,b⟩ ⟨c,d⟩]
 unfold rdA
 rw[hw,mid_of,last_of,hid,hall,decide_eq_true hl2,decide_eq_true (show 2≤(Lib.itoa s::(xs.map segT++[46::Lib.itoa r])).length by simp),decide_eq_true (show (Lib.itoa s::(xs.map segT++[46::Lib.itoa r])).length≤10 by simp;omega)]
 simp only[Bool.and_self,List.getD_cons_zero,List.drop_succ_cons,List.drop_zero]
 rw[intR_itoa h1.1 (by omega),intR_itoa h3.1 (by omega)]
 exact endE_t ok h rfl
theorem rdP_text {e:EnvT} (h:ok e=true):rdP ok (tE e)=(e,true):=by
 obtain⟨s,xs,r⟩:=e
 obtain⟨h1,h2,h3,h4⟩:=hok _ h
 simp only at h1 h2 h3 h4
 have hw0:splB 32 (tE (s,xs,r))=Lib.itoa s::(xs.map segT++[46::Lib.itoa r]):=spl_text h1 h2 h3
 have hs0:Lib.itoa s≠[]:=by rw[itoa_nn h1.1];exact dgs_ne _
 have hw:wrdL (tE (s,xs,r))=Lib.itoa s::(xs.map segT++[46::Lib.itoa r]):=by
  unfold wrdL
  rw[hw0]
  refine List.filter_eq_self.2 fun w hm=>?_
  rw[Bool.not_eq_true',decide_eq_false_iff_not]
  rcases List.mem_cons.1 hm with rfl|hm
  · exact hs0
  · rcases List.mem_append.1 hm with hm|hm
    · obtain⟨x,_,rfl⟩:=List.mem_map.1 hm
      intro g;cases g
    · rw[List.mem_singleton.1 hm];intro g;cases g
 have hsg:∀x∈xs,sgP (segT x)=(x,true):=fun x hm=>by
  obtain⟨a,b,c,d⟩:=h2 x hm
  have ht:Lib.trimPrefix (segT x) [62]=Lib.itoa x.2++58::Lib.itoa x.1:=by
   unfold Lib.trimPrefix Lib.hasPrefix segT
   rw[pre_one,decide_eq_true rfl];rfl
  have hp:Lib.hasPrefix (segT x) [62]=true:=by unfold Lib.hasPrefix segT;rw[pre_one,decide_eq_true rfl]
  unfold sgP
  rw[ht,hp,cutA_app (itoa_no c (by decide))]
  simp only
  rw[rdD_itoa a (by omega),rdD_itoa c (by omega)]
  rfl
 have hid:(xs.map segT).map (fun w=>(sgP w).1)=xs:=by
  rw[List.map_map]
  have:xs.map (fun x=>(sgP (segT x)).1)=xs.map id:=List.map_congr_left fun x hm=>by rw[hsg x hm];rfl
  rw[List.map_id] at this
  exact this
 have hall:((xs.map segT).all fun w=>(sgP w).2)=true:=by
  rw[List.all_map]
  exact List.all_eq_true.2 fun x hm=>by show (sgP (segT x)).2=true;rw[hsg x hm]
 have htp:Lib.trimPrefix (46::Lib.itoa r) [46]=Lib.itoa r:=by
  unfold Lib.trimPrefix Lib.hasPrefix
  rw[pre_one,decide_eq_true rfl];rfl
 unfold rdP
 rw[hw,mid_of,last_of,hid,hall,htp,decide_eq_true (show 2≤(Lib.itoa s::(xs.map segT++[46::Lib.itoa r])).length by simp)]
 simp only[List.getD_cons_zero]
 rw[rdD_itoa h1.1 (by omega),rdD_itoa h3.1 (by omega)]
 exact endE_t ok h rfl
theorem rd_eq (s:List UInt8):rdA ok s=rdP ok s:=by
 rcases rdA_x ok s with⟨f,h1,h2,rfl⟩|h1
 · rw[h1,rdP_text ok hok h2]
 · rcases rdP_x ok s with⟨f,g1,g2,rfl⟩|g1
   · rw[rdA_text ok hok g2] at h1
     cases h1
   · rw[h1,g1]
end
end Go.Proofs.YthhogcknkimijaaDoor
