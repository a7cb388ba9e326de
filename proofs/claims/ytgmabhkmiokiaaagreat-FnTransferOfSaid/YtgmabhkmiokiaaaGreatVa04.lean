/-
  Texts of this claim, joined (part 4). No condition beyond those of the theorems.
-/
import Derived.Test.YtgmabhkmiokiaaaGreatVa03
import Derived.Test.YtgmabhkmiokiaaaGreatVa02
set_option linter.unusedSimpArgs false
set_option linter.unusedVariables false
namespace Go.Proofs.YtgmabhkmiokiaaaGreat
abbrev NodeD:=Int × Int × Int × List Int
abbrev PatchD:=Int × List (List Int) × List NodeD × List Int
def kindT:List (Int × Int × Int × Bool × Bool) :=
 [(0,0,3,true,false),(0,-2147483648,2147483647,false,false),(2,1,0,true,false),(2,1,0,true,false),(1,-2147483648,2147483647,true,false),(1,1,16,true,false),
  (1,1,0,true,false),(1,1,0,true,false),(2,1,0,false,false),(1,0,31,false,false),(1,0,2147483647,false,false),(1,-2147483648,2147483647,false,false),
  (1,0,3,false,false),(0,-2147483648,2147483647,false,false),(3,1,0,false,false),(2,1,0,false,false),(1,-2147483648,2147483647,true,true)]
def kT (k:Int):Int × Int × Int × Bool × Bool:=kindT.getD (k - 1).toNat (0,0,0,false,false)
def kindsL:List (ByteArray × Int × Int × Int × Bool × Bool) :=
 [(⟨#[105,110,112,117,116]⟩,0,0,3,true,false),
  (⟨#[99,111,110,115,116]⟩,0,-2147483648,2147483647,false,false),
  (⟨#[97,100,100]⟩,2,1,0,true,false),
  (⟨#[115,117,98]⟩,2,1,0,true,false),
  (⟨#[103,97,105,110]⟩,1,-2147483648,2147483647,true,false),
  (⟨#[100,101,108,97,121]⟩,1,1,16,true,false),
  (⟨#[115,117,109]⟩,1,1,0,true,false),
  (⟨#[100,105,102,102]⟩,1,1,0,true,false),
  (⟨#[109,117,108]⟩,2,1,0,false,false),
  (⟨#[115,104,105,102,116]⟩,1,0,31,false,false),
  (⟨#[99,108,105,112]⟩,1,0,2147483647,false,false),
  (⟨#[112,104,97,115,101]⟩,1,-2147483648,2147483647,false,false),
  (⟨#[116,97,98,108,101]⟩,1,0,3,false,false),
  (⟨#[110,111,105,115,101]⟩,0,-2147483648,2147483647,false,false),
  (⟨#[115,101,108,101,99,116]⟩,3,1,0,false,false),
  (⟨#[104,111,108,100]⟩,2,1,0,false,false),
  (⟨#[99,111,109,98]⟩,1,-2147483648,2147483647,true,true)]
theorem kindsL_at {k:Int} (h:inR k 1 17=true):(kindsL.getD (k - 1).toNat (ByteArray.empty,0,0,0,false,false)).2=kT k∧0≤k - 1∧k - 1 < 17:=by
 obtain ⟨h1,h2⟩:=inR_iff.1 h
 refine ⟨?_,by omega,by omega⟩
 obtain ⟨m,hm⟩ :∃m:Nat,k - 1=m:=⟨(k - 1).toNat,by omega⟩
 have hm':m < 17:=by omega
 unfold kT;rw [hm,Int.toNat_natCast];have key :∀m:_root_.Fin 17,(kindsL.getD m.1 (ByteArray.empty,0,0,0,false,false)).2=kindT.getD m.1 (0,0,0,false,false):=by decide
 exact key ⟨m,hm'⟩
def nodeB (n:NodeD) (tables:Int):Bool :=
 inR n.1 1 17 && (match decide ((kT n.1).2.1≤(kT n.1).2.2.1) with | true=>inR n.2.1 (kT n.1).2.1 (kT n.1).2.2.1 | false=>decide (n.2.1=0)) &&
  (match (kT n.1).2.2.2.2 with | true=>inR n.2.2.1 1 16 | false=>decide (n.2.2.1=0)) && n.2.2.2.all (fun f=>inR f 0 23) && decide ((n.2.2.2.length:Int)=(kT n.1).1) && (!decide (n.1=13) || decide (n.2.1 < tables))
def tabB (t:List Int):Bool:=(decide (t.length=2) || decide (t.length=4) || decide (t.length=8) || decide (t.length=16)) && smps t
def tabsB (ts:List (List Int)):Bool:=ts.all tabB && decide (ts.length≤4)
def nodeIn (p:PatchD) (n:NodeD):Bool:=nodeB n p.2.1.length && idxs p.2.2.1.length n.2.2.2 && !(decide (n.1=1) && decide (p.1≤n.2.1))
def formedB (p:PatchD):Bool:=inR p.1 0 4 && tabsB p.2.1 && decide (p.2.2.1.length≤24) && decide (p.2.2.2.length≤4) && idxs p.2.2.1.length p.2.2.2 && p.2.2.1.all (nodeIn p)
def waitsL (n:NodeD):List Int:=match decide (n.1=6) with | true=>[] | false=>n.2.2.2
def n0:NodeD:=(0,0,0,[])
def readyB (ns:List NodeD) (out:List Int) (i:Nat):Bool:=!out.contains (i:Int) && (waitsL (ns.getD i n0)).all (fun f=>out.contains f)
def nextR (ns:List NodeD) (out:List Int):Option Nat:=(List.range ns.length).find? (readyB ns out)
def ordGo (ns:List NodeD):Nat→List Int→List Int
 | 0,out=>out
 | k+1,out=>match nextR ns out with
   | none=>out
   | some i=>ordGo ns k (out++[(i:Int)])
def ordL (ns:List NodeD):List Int:=ordGo ns ns.length []
def patchB (p:PatchD):Bool:=formedB p && decide ((ordL p.2.2.1).length=p.2.2.1.length)
theorem nextR_none {ns:List NodeD} {out:List Int} (h :∀j,j < ns.length→readyB ns out j=false):nextR ns out=none:=by
 simp only[nextR,List.find?_eq_none,List.mem_range,Bool.not_eq_true];exact h
theorem nextR_some {ns:List NodeD} {out:List Int} {i:Nat} (hi:i < ns.length) (h :∀j,j < i→readyB ns out j=false) (k:readyB ns out i=true):nextR ns out=some i:=by
 simp only[nextR]
 have e:List.range ns.length=List.range i++i::(List.range' (i+1) (ns.length - i - 1)):=by
  have:=@List.range'_append_1 0 i (ns.length - i)
  rw [Nat.zero_add,(by omega:i+(ns.length - i)=ns.length)] at this
  rw [List.range_eq_range',List.range_eq_range',← this]
  congr 1
  rw [(by omega:ns.length - i=(ns.length - i - 1)+1),List.range'_succ]
  congr 2
 rw [e,List.find?_append,List.find?_eq_none.2 (fun j hj=>by simpa using h j (List.mem_range.1 hj)),Option.none_or,List.find?_cons_of_pos k]
theorem ordGo_none {ns:List NodeD} {out:List Int} (k:Nat) (h:nextR ns out=none):ordGo ns k out=out:=by
 cases k with
 | zero=>rfl
 | succ k=>simp only[ordGo,h]
theorem ordGo_some {ns:List NodeD} {out:List Int} {k i:Nat} (h:nextR ns out=some i):ordGo ns (k+1) out=ordGo ns k (out++[(i:Int)]):=by simp only[ordGo,h]
theorem count_set {tk:List Bool} {i:Nat} (hi:i < tk.length) (h:tk.getD i false=false):(tk.set i true).count false+1=tk.count false:=by
 induction tk generalizing i with
 | nil=>simp at hi
 | cons b tk ih =>
   cases i with
   | zero=>simp at h; subst h; simp
   | succ i =>
     have:=ih (i:=i) (by simpa using hi) (by simpa using h)
     rw [List.set_cons_succ,List.count_cons,List.count_cons];omega
def OrdI (ns:List NodeD) (tk:List Bool) (out:List Int):Prop :=
 tk.length=ns.length∧(∀ j,j < ns.length→tk.getD j false=out.contains (j:Int))∧ordGo ns (tk.count false) out=ordL ns∧out.length+tk.count false=ns.length
theorem ordI_start (ns:List NodeD):OrdI ns (List.replicate ns.length false) []:=by
 refine ⟨by simp,fun j hj=>?_,by simp [ordL],by simp⟩
 simp only[List.getD,List.getElem?_replicate,hj,if_true,Option.getD_some]
 rfl
theorem ready_iff {ns:List NodeD} {tk:List Bool} {out:List Int} (h:OrdI ns tk out) {i:Nat} (hi:i < ns.length):readyB ns out i=(!tk.getD i false && (waitsL (ns.getD i n0)).all (fun f=>out.contains f)):=by
 unfold readyB; rw [h.2.1 i hi]
theorem OrdI.next {ns:List NodeD} {tk:List Bool} {out:List Int} {i:Nat} (h:OrdI ns tk out) (hi:i < ns.length) (hno :∀j,j < i→readyB ns out j=false) (hr:readyB ns out i=true) :
 OrdI ns (tk.set i true) (out++[(i:Int)])∧(tk.set i true).count false+1=tk.count false:=by
 obtain ⟨h1,h2,h3,h4⟩:=h
 have hf:tk.getD i false=false:=by
  rw [h2 i hi];unfold readyB at hr;simp only[Bool.and_eq_true,Bool.not_eq_true'] at hr
  exact hr.1
 have hc:=count_set (by omega) hf
 have hn:=nextR_some hi hno hr
 refine ⟨⟨by simpa using h1,fun j hj=>?_,?_,by simp; omega⟩,hc⟩
 · by_cases hji:j=i
   · subst hji;simp [List.getD,h1,hj]
   · have e:(tk.set i true).getD j false=tk.getD j false:=by simp [List.getD,List.getElem?_set_ne (Ne.symm hji)]
     rw [e,h2 j hj];have hne:(j:Int)≠(i:Int):=by omega
     simp [List.contains_eq_mem,hne]
 · rw [← h3,← hc,ordGo_some hn]
theorem ordI_len {ns:List NodeD} {tk:List Bool} {out:List Int} (h:OrdI ns tk out):out.length≤ns.length:=by have:=h.2.2.2; omega
theorem formedB_parts {p:PatchD} (h:formedB p=true):p.2.2.1.length≤24∧p.2.2.2.length≤4∧tabsB p.2.1=true∧0≤p.1∧p.1≤4∧idxs p.2.2.1.length p.2.2.2=true∧p.2.2.1.all (nodeIn p)=true:=by
 simp only[formedB,Bool.and_eq_true,decide_eq_true_eq] at h
 obtain ⟨⟨⟨⟨⟨h1,h2⟩,h3⟩,h4⟩,h5⟩,h6⟩:=h
 obtain ⟨h7,h8⟩:=inR_iff.1 h1
 exact ⟨h3,h4,h2,h7,h8,h5,h6⟩
theorem getD_mem {α:Type} {l:List α} {i:Nat} {d:α} (h:i < l.length):l.getD i d∈l:=by
 simp [List.getD,h]
theorem idxs_at {n:Int} {xs:List Int} (h:idxs n xs=true) {f:Int} (hf:f∈xs):0≤f∧f≤n - 1:=inR_iff.1 (List.all_eq_true.1 h f hf)
theorem formedB_from {p:PatchD} (h:formedB p=true) {i:Nat} (hi:i < p.2.2.1.length) {f:Int} (hf:f∈waitsL (p.2.2.1.getD i n0)):0≤f∧f < p.2.2.1.length:=by
 have h1:=List.all_eq_true.1 (formedB_parts h).2.2.2.2.2.2 _ (getD_mem (d:=n0) hi)
 simp only[nodeIn,Bool.and_eq_true] at h1
 have hf':f∈(p.2.2.1.getD i n0).2.2.2:=by
  unfold waitsL at hf
  split at hf
  · cases hf
  · exact hf
 have:=idxs_at h1.1.2 hf'
 omega
theorem waitsL_len (n:NodeD):(waitsL n).length≤n.2.2.2.length:=by
 unfold waitsL; split<;>simp
theorem take_all_succ {α:Type} {xs:List α} {q:α→Bool} {m:Nat} {d:α} (h:m < xs.length):(xs.take (m+1)).all q=((xs.take m).all q && q (xs.getD m d)):=by
 rw [take_next (d:=d) h,List.all_append]; simp
theorem has_next {xs:List Int} {m:Int} {k:Nat} (hk:k < xs.length) (h:(xs.take k).contains m=false) (hne:¬ xs.getD k 0=m):(xs.take (k+1)).contains m=false:=by
 rw [take_next (d:=0) hk]
 simp only[List.contains_eq_mem,List.mem_append,List.mem_singleton,decide_eq_false_iff_not,not_or] at h ⊢
 exact ⟨h,fun e=>hne e.symm⟩
theorem has_stop {xs:List Int} {m:Int} {k:Nat} (hk:k < xs.length) (h:xs.getD k 0=m):xs.contains m=true:=by
 simp only[List.contains_eq_mem,decide_eq_true_eq];rw [← h]; exact getD_mem hk
theorem has_done {xs:List Int} {m:Int} {k:Nat} (h:(xs.take k).contains m=false) (hk:¬ k < xs.length):xs.contains m=false:=by
 rw [List.take_of_length_le (by omega)] at h; exact h
def iMin (a b:Int):Int:=min a b
def iMax (a b:Int):Int:=max a b
theorem iMin_l {a b:Int} (h:a≤b):a=iMin a b:=by unfold iMin; omega
theorem iMin_r {a b:Int} (h:b≤a):b=iMin a b:=by unfold iMin; omega
theorem iMax_l {a b:Int} (h:b≤a):a=iMax a b:=by unfold iMax; omega
theorem iMax_r {a b:Int} (h:a≤b):b=iMax a b:=by unfold iMax; omega
def l03B (xs:List Int):Bool:=decide (xs.length≤4000) && smps xs
def arL:List Int:=[-1,0,0,2,2,1,1,1,1,2,1,1,1,1,0,3,2,1]
def hasAL:List Int:=[1,2,5,6,10,11,12,13,14,17]
def l06aB (kd a tb:Int):Bool :=
 match decide (kd=1) with
 | true=>inR a 0 3
 | false=>match decide (kd=6) with
   | true=>inR a 1 16
   | false=>match decide (kd=10) with
     | true=>inR a 0 31
     | false=>match decide (kd=11) with
       | true=>inR a 0 2147483647
       | false=>match decide (kd=13) with
         | true=>inR a 0 (min (max tb 0) 4 - 1)
         | false=>match hasAL.contains kd with
           | true=>smp a
           | false=>decide (a=0)
def l06okB (kd a bb:Int) (fr:List Int) (tb:Int):Bool :=
 inR kd 1 17 && l06aB kd a tb && decide ((fr.length:Int)=arL.getD kd.toNat 0) && fr.all (fun f=>inR f 0 23) && (match decide (kd=17) with | true=>inR bb 1 16 | false=>decide (bb=0))
theorem clampA (a tb:Int):inR a 0 (min (max tb 0) 4 - 1)=(inR a 0 3 && decide (a < tb)):=by
 rw [Bool.eq_iff_iff];simp only[inR,Bool.and_eq_true,decide_eq_true_eq];omega
theorem kind_eq (m:Nat) (h1:1≤m) (h2:m≤17) (a tb:Int) :
 l06aB m a tb=((match decide ((kT m).2.1≤(kT m).2.2.1) with | true=>inR a (kT m).2.1 (kT m).2.2.1 | false=>decide (a=0)) && (!decide ((m:Int)=13) || decide (a < tb))) ∧
 arL.getD m 0=(kT m).1∧decide ((m:Int)=17)=(kT m).2.2.2.2:=by
 have c:m=1∨m=2∨m=3∨m=4∨m=5∨m=6∨m=7∨m=8∨m=9∨m=10∨m=11∨m=12∨m=13∨m=14∨m=15∨m=16∨m=17:=by omega
 rcases c with rfl | rfl | rfl | rfl | rfl | rfl | rfl | rfl | rfl | rfl | rfl | rfl | rfl | rfl | rfl | rfl | rfl<;>refine ⟨?_,rfl,rfl⟩
 case inr.inr.inr.inr.inr.inr.inr.inr.inr.inr.inr.inr.inl=>exact clampA a tb
 all_goals (show _=(_ && true); rw [Bool.and_true]; rfl)
theorem bool5 (a b c d e:Bool):(a && b && c && d && e)=(a && e && d && c && b):=by
 cases a<;>cases b<;>cases c<;>cases d<;>cases e<;>rfl
theorem l06okB_eq (kd a bb:Int) (fr:List Int) (tb:Int):l06okB kd a bb fr tb=nodeB (kd,a,bb,fr) tb:=by
 cases hk:inR kd 1 17 with
 | false=>simp [l06okB,nodeB,hk]
 | true =>
   obtain ⟨h1,h2⟩:=inR_iff.1 hk
   obtain ⟨m,rfl⟩:=Int.eq_ofNat_of_zero_le (by omega:0≤kd)
   obtain ⟨e1,e2,e3⟩:=kind_eq m (by omega) (by omega) a tb
   unfold l06okB nodeB;simp only[hk,Bool.true_and,e1,Int.toNat_natCast,e2,e3];exact bool5 _ _ _ _ _
theorem tab_eq (t:List Int):([2,4,8,16].contains (t.length:Int) && l03B t)=tabB t:=by
 have e:([2,4,8,16].contains (t.length:Int))=(decide (t.length=2) || decide (t.length=4) || decide (t.length=8) || decide (t.length=16)):=by
  rw [Bool.eq_iff_iff];simp only[List.contains_eq_mem,List.mem_cons,List.not_mem_nil,or_false,decide_eq_true_eq,Bool.or_eq_true];omega
 unfold tabB l03B;rw [e];cases h:(decide (t.length=2) || decide (t.length=4) || decide (t.length=8) || decide (t.length=16)) with
 | false=>rfl
 | true =>
   simp only[Bool.or_eq_true,decide_eq_true_eq] at h
   rw [decide_eq_true (by omega:t.length≤4000)]
   rfl
theorem nodeIn_of {p:PatchD} {n:NodeD} (h1:nodeB n p.2.1.length=true) (h2:¬ (n.1=1∧p.1≤n.2.1)) (h3 :∀f∈n.2.2.2,f < (p.2.2.1.length:Int)):nodeIn p n=true:=by
 have h4:n.2.2.2.all (fun f=>inR f 0 23)=true:=by simp only[nodeB,Bool.and_eq_true] at h1; exact h1.1.1.2
 have h5:idxs p.2.2.1.length n.2.2.2=true:=by
  refine List.all_eq_true.2 fun f hf=>inR_iff.2 ⟨(inR_iff.1 (List.all_eq_true.1 h4 f hf)).1,?_⟩
  have:=h3 f hf; omega
 simp only[nodeIn,h1,h5,Bool.true_and];simp only[Bool.not_eq_true',Bool.and_eq_false_iff,decide_eq_false_iff_not]
 by_cases h:n.1=1
 · exact .inr fun hh=>h2 ⟨h,hh⟩
 · exact .inl h
theorem nodeIn_t {p:PatchD} {n:NodeD} (h1:nodeB n p.2.1.length=true) (h2:idxs p.2.2.1.length n.2.2.2=true) (h3:¬ (n.1=1∧p.1≤n.2.1)):nodeIn p n=true:=by
 simp only[nodeIn,h1,h2,Bool.true_and];simp only[Bool.not_eq_true',Bool.and_eq_false_iff,decide_eq_false_iff_not]
 by_cases h:n.1=1
 · exact .inr fun hh=>h3 ⟨h,hh⟩
 · exact .inl h
theorem nodeIn_parts {p:PatchD} {n:NodeD} (h:nodeIn p n=true):nodeB n p.2.1.length=true∧idxs p.2.2.1.length n.2.2.2=true∧¬ (n.1=1∧p.1≤n.2.1):=by
 simp only[nodeIn,Bool.and_eq_true,Bool.not_eq_true',Bool.and_eq_false_iff,decide_eq_false_iff_not] at h
 exact ⟨h.1.1,h.1.2,fun hh=>h.2.elim (fun g=>g hh.1) (fun g=>g hh.2)⟩
def ordR (ns:List NodeD):List Int × Bool:=match decide ((ordL ns).length=ns.length) with
 | true=>(ordL ns,true)
 | false=>([],false)
abbrev fits (n:Nat):Prop:=n≤1099511627776
def fitsL (xs:List (List Int)):Prop:=xs.length≤1099511627776∧∀ l∈xs,l.length≤1099511627776
def fitsN (xs:List NodeD):Prop:=xs.length≤1099511627776∧∀ l∈xs,l.2.2.2.length≤1099511627776
def fitsP (p:PatchD):Prop:=fitsL p.2.1∧fitsN p.2.2.1∧p.2.2.2.length≤1099511627776
def smallP (p:PatchD):Prop:=p.2.1.length≤4∧(∀ l∈p.2.1,l.length≤16)∧p.2.2.1.length≤24∧(∀ x∈p.2.2.1,x.2.2.2.length≤23)∧p.2.2.2.length≤4
theorem smallP_fits {p:PatchD} (h:smallP p):fitsL p.2.1:=⟨by have:=h.1; omega,fun l hl=>by have:=h.2.1 l hl; omega⟩
theorem smallP_fitsP {p:PatchD} (h:smallP p):fitsP p:=⟨smallP_fits h,⟨by have:=h.2.2.1; omega,fun l hl=>by have:=h.2.2.2.1 l hl; omega⟩,by have:=h.2.2.2.2; omega⟩
theorem kT_le (k:Int):(kT k).1≤3:=by
 have h :∀x∈kindT,x.1≤3:=by decide
 unfold kT
 by_cases hk:(k - 1).toNat < kindT.length
 · exact h _ (getD_mem hk)
 · rw [List.getD_eq_getElem?_getD,List.getElem?_eq_none (by omega)]; decide
theorem smallP_of {p:PatchD} (h:patchB p=true):smallP p:=by
 have hf:formedB p=true:=by unfold patchB at h; exact (Bool.and_eq_true_iff.1 h).1
 obtain ⟨p1,p2,p3,p4,p5,p6,p7⟩:=formedB_parts hf
 simp only[tabsB,Bool.and_eq_true,decide_eq_true_eq] at p3
 refine ⟨p3.2,fun l hl=>?_,p1,fun x hx=>?_,p2⟩
 · have:=List.all_eq_true.1 p3.1 l hl
   simp only[tabB,Bool.and_eq_true,Bool.or_eq_true,decide_eq_true_eq] at this
   omega
 · have h1:=(nodeIn_parts (List.all_eq_true.1 p7 x hx)).1
   simp only[nodeB,Bool.and_eq_true,decide_eq_true_eq] at h1
   have h2:=h1.1.2
   have h3:=kT_le x.1
   omega
instance:DecidableEq NodeD:=inferInstanceAs (DecidableEq (Int × Int × Int × List Int))
instance:DecidableEq PatchD:=instDecidableEqProd
section
variable {α:Type} {mk:Int→α→α} {ct:α→Nat} {xs:List α} {k:Int} {m:Nat}
def eqD (x y:α) [DecidableEq α]:Bool:=decide (x=y)
theorem eqD_t [DecidableEq α] {x y:α} (h:eqD x y=true):x=y:=of_decide_eq_true h
theorem eqD_f [DecidableEq α] {x y:α} (h:eqD x y=false):¬ x=y:=of_decide_eq_false h
theorem eqD_rfl [DecidableEq α] (x:α):eqD x x=true:=decide_eq_true rfl
theorem eq_next [DecidableEq α] {ys:List α} (d:α) (hx:m < xs.length) (hl:xs.length=ys.length) (hp:xs.take m=ys.take m) (hq:eqD (xs.getD m d) (ys.getD m d)=true):xs.take (m+1)=ys.take (m+1):=by
 rw [take_next (d:=d) hx,take_next (d:=d) (by omega),hp,eqD_t hq]
theorem eq_done [DecidableEq α] {ys:List α} (hx:xs.length≤m) (hl:xs.length=ys.length) (hp:xs.take m=ys.take m):eqD xs ys=true:=by
 rw [List.take_of_length_le hx,List.take_of_length_le (by omega)] at hp; exact decide_eq_true hp
theorem eq_stop [DecidableEq α] {ys:List α} (d:α) (hq:eqD (xs.getD m d) (ys.getD m d)=false):eqD xs ys=false:=by
 refine decide_eq_false ?_; rintro rfl; exact eqD_f hq rfl
theorem eq_len [DecidableEq α] {ys:List α} (hq:¬ xs.length=ys.length):eqD xs ys=false:=by
 refine decide_eq_false ?_; rintro rfl; exact hq rfl
end
open Go.RowKit
def clipV (a x:Int):Int:=max (-a) (min x a)
def uns (x:Int):Int:=x % 4294967296
def lookV (t:List Int) (x:Int):Int:=t.getD ((t.length * uns x) / 4294967296).toNat 0
def shrV (x a:Int):Int:=x.fdiv (2 ^ (min a.toNat 64))
def xorC (x:Int):Int:=IntKind.i64.wrap ((BitVec.ofInt IntKind.i64.bits x ^^^ BitVec.ofInt IntKind.i64.bits 2734686208).toNat:Int)
def noiseV (s:Int):Int:=match decide (s % 2=1) with | true=>wrap32 (xorC (uns s / 2)) | false=>wrap32 (uns s / 2)
def outV (kd a:Int) (tabs:List (List Int)) (i s:List Int):Int :=
 if kd=1 then i.getD 0 0 else if kd=2 then a else if kd=3 then wrap32 (i.getD 0 0+i.getD 1 0) else if kd=4 then wrap32 (i.getD 0 0 - i.getD 1 0) else if kd=5 then wrap32 (a * i.getD 0 0)
 else if kd=6 then s.getD 0 0 else if kd=7 then wrap32 (s.getD 0 0+i.getD 0 0) else if kd=8 then wrap32 (i.getD 0 0 - s.getD 0 0) else if kd=9 then wrap32 (i.getD 0 0 * i.getD 1 0)
 else if kd=10 then shrV (i.getD 0 0) a else if kd=11 then clipV a (i.getD 0 0) else if kd=12 then s.getD 0 0 else if kd=13 then lookV (tabs.getD a.toNat []) (i.getD 0 0)
 else if kd=14 then s.getD 0 0 else if kd=15 then (match decide (0≤i.getD 0 0) with | true=>i.getD 1 0 | false=>i.getD 2 0) else if kd=16 then (match decide (0 < i.getD 1 0) with | true=>i.getD 0 0 | false=>s.getD 0 0) else wrap32 (i.getD 0 0+a * s.getD 0 0)
def nextV (kd:Int) (i s:List Int) (out:Int):List Int :=
 if kd=6 then s.drop 1++[i.getD 0 0] else if kd=7 then [out] else if kd=8 then [i.getD 0 0] else if kd=12 then [wrap32 (s.getD 0 0+i.getD 0 0)] else if kd=14 then [noiseV (s.getD 0 0)]
 else if kd=16 then [out] else if kd=17 then s.drop 1++[out] else []
def startV (n:NodeD):List Int :=
 if n.1=6 then List.replicate n.2.1.toNat 0 else if n.1=17 then List.replicate n.2.2.1.toNat 0 else if n.1=7 then [0] else if n.1=8 then [0] else if n.1=16 then [0]
 else if n.1=12 then [n.2.1] else if n.1=14 then [n.2.1] else []
def insV (n:NodeD) (frame vals:List Int):List Int:=match decide (n.1=1) with | true=>[frame.getD n.2.1.toNat 0] | false=>n.2.2.2.map fun i=>vals.getD i.toNat 0
def insN (n:NodeD):Nat:=match decide (n.1=1) with | true=>1 | false=>n.2.2.2.length
theorem smp_iff {x:Int}:smp x=true↔-2147483648≤x∧x≤2147483647:=inR_iff
theorem smp_w (x:Int):smp (wrap32 x)=true:=smp_iff.2 (wrap32_bd x)
theorem smps_iff {xs:List Int}:smps xs=true ↔∀x∈xs,smp x=true:=List.all_eq_true
theorem smps_at {xs:List Int} (h:smps xs=true) (i:Nat):smp (xs.getD i 0)=true:=by
 by_cases hi:i < xs.length
 · exact smps_iff.1 h _ (getD_mem hi)
 · rw [List.getD_eq_getElem?_getD,List.getElem?_eq_none (by omega)]; rfl
theorem nodeB_parts {n:NodeD} {tb:Int} (h:nodeB n tb=true):1≤n.1∧n.1≤17∧(match decide ((kT n.1).2.1≤(kT n.1).2.2.1) with | true=>inR n.2.1 (kT n.1).2.1 (kT n.1).2.2.1 | false=>decide (n.2.1=0))=true ∧
 (match (kT n.1).2.2.2.2 with | true=>inR n.2.2.1 1 16 | false=>decide (n.2.2.1=0))=true∧(n.2.2.2.length:Int)=(kT n.1).1∧(n.1=13→n.2.1 < tb):=by
 simp only[nodeB,Bool.and_eq_true,decide_eq_true_eq,Bool.or_eq_true,Bool.not_eq_true',decide_eq_false_iff_not] at h
 obtain ⟨⟨⟨⟨⟨h1,h2⟩,h3⟩,h4⟩,h5⟩,h6⟩:=h
 obtain ⟨h7,h8⟩:=inR_iff.1 h1
 exact ⟨h7,h8,h2,h3,h5,fun e=>by rcases h6 with h6 | h6; exact absurd e h6; exact h6⟩
theorem nodeB_ab {kd a b tb:Int} {fr:List Int} (h:nodeB (kd,a,b,fr) tb=true):smp a=true∧(kd=1→0≤a∧a≤3)∧(kd=6→1≤a∧a≤16)∧(kd=10→0≤a∧a≤31)∧(kd=11→0≤a)∧(kd=13→0≤a∧a≤3∧a < tb)∧(kd=17→1≤b∧b≤16) ∧
 (kd=3∨kd=4∨kd=9∨kd=16→fr.length=2)∧(kd=5∨kd=6∨kd=7∨kd=8∨kd=10∨kd=11∨kd=12∨kd=13∨kd=17→fr.length=1)∧(kd=15→fr.length=3)∧(kd=1∨kd=2∨kd=14→fr.length=0):=by
 obtain ⟨h1,h2,h3,h4,h5,h6⟩:=nodeB_parts h
 simp only at h1 h2 h3 h4 h5 h6
 obtain ⟨m,rfl⟩:=Int.eq_ofNat_of_zero_le (by omega:0≤kd)
 have c:m=1∨m=2∨m=3∨m=4∨m=5∨m=6∨m=7∨m=8∨m=9∨m=10∨m=11∨m=12∨m=13∨m=14∨m=15∨m=16∨m=17:=by omega
 rcases c with rfl | rfl | rfl | rfl | rfl | rfl | rfl | rfl | rfl | rfl | rfl | rfl | rfl | rfl | rfl | rfl | rfl<;>simp [kT,kindT,inR,smp,-Int.not_lt] at h3 h4 h5 h6 ⊢<;>(try subst h5)<;>(try simp)<;>(try omega)
theorem startV_len (n:NodeD):(startV n).length=(if n.1=6 then n.2.1.toNat else if n.1=17 then n.2.2.1.toNat else if n.1=7∨n.1=8∨n.1=16∨n.1=12∨n.1=14 then 1 else 0):=by
 unfold startV;repeat' split
 all_goals first | (simp; done) | (simp_all; done) | omega
def stepOk (n:NodeD) (tabs:List (List Int)) (i s:List Int):Prop:=nodeB n tabs.length=true∧tabsB tabs=true∧i.length=insN n∧s.length=(startV n).length∧smps i=true∧smps s=true
theorem tabsB_parts {ts:List (List Int)} (h:tabsB ts=true):ts.length≤4∧∀ t∈ts,(t.length=2∨t.length=4∨t.length=8∨t.length=16)∧smps t=true:=by
 simp only[tabsB,Bool.and_eq_true,decide_eq_true_eq] at h
 refine ⟨h.2,fun t ht=>?_⟩
 have:=List.all_eq_true.1 h.1 t ht
 simp only[tabB,Bool.and_eq_true,Bool.or_eq_true,decide_eq_true_eq] at this
 exact ⟨by omega,this.2⟩
theorem shrV_smp {x a:Int} (h:smp x=true):smp (shrV x a)=true:=by
 rw [smp_iff] at *
 unfold shrV
 have hp:(1:Int)≤2 ^ (min a.toNat 64):=by
  have:(0:Int) < 2 ^ (min a.toNat 64):=Int.pow_pos (by omega)
  omega
 generalize (2:Int) ^ (min a.toNat 64)=m at *
 rw [Int.fdiv_eq_ediv_of_nonneg _ (by omega)]
 constructor
 · exact Int.le_trans (by omega) ((Int.le_ediv_iff_mul_le (by omega)).2 (by
    have:-2147483648 * m≤-2147483648 * 1:=Int.mul_le_mul_of_nonpos_left (by omega) hp
    omega):-2147483648≤x / m)
 · rcases Int.lt_or_le x 0 with hx | hx
   · have:=Int.ediv_neg_of_neg_of_pos hx (by omega:0 < m); omega
   · have:=Int.ediv_le_self m hx; omega
theorem look_smp {t:List Int} {x:Int} (h:smps t=true):smp (lookV t x)=true:=smps_at h _
theorem smp_ite {c:Prop} [Decidable c] {x y:Int} (h1:c→smp x=true) (h2:¬ c→smp y=true):smp (if c then x else y)=true:=by
 by_cases h:c
 · rw [if_pos h]; exact h1 h
 · rw [if_neg h]; exact h2 h
theorem outV_smp {n:NodeD} {tabs:List (List Int)} {i s:List Int} (h:stepOk n tabs i s):smp (outV n.1 n.2.1 tabs i s)=true:=by
 obtain ⟨kd,a,b,fr⟩:=n;obtain ⟨h1,h2,h3,h4,h5,h6⟩:=h;obtain ⟨q1,q2,q3,q4,q5,q6,_⟩:=nodeB_ab h1
 have hi:=smps_at h5
 have hs:=smps_at h6
 unfold outV;simp only
 refine smp_ite (fun _=>hi 0) fun _=>?_
 refine smp_ite (fun _=>q1) fun _=>?_
 refine smp_ite (fun _=>smp_w _) fun _=>?_
 refine smp_ite (fun _=>smp_w _) fun _=>?_
 refine smp_ite (fun _=>smp_w _) fun _=>?_
 refine smp_ite (fun _=>hs 0) fun _=>?_
 refine smp_ite (fun _=>smp_w _) fun _=>?_
 refine smp_ite (fun _=>smp_w _) fun _=>?_
 refine smp_ite (fun _=>smp_w _) fun _=>?_
 refine smp_ite (fun _=>shrV_smp (hi 0)) fun _=>?_
 refine smp_ite (fun e=>?_) fun _=>?_
 · have:=q5 e
   have h0:=smp_iff.1 (hi 0)
   rw [smp_iff] at q1 ⊢
   unfold clipV; omega
 refine smp_ite (fun _=>hs 0) fun _=>?_
 refine smp_ite (fun _=>?_) fun _=>?_
 · refine look_smp ?_
   by_cases ha:a.toNat < tabs.length
   · exact ((tabsB_parts h2).2 _ (getD_mem ha)).2
   · rw [List.getD_eq_getElem?_getD,List.getElem?_eq_none (by omega)]; rfl
 refine smp_ite (fun _=>hs 0) fun _=>?_
 refine smp_ite (fun _=>?_) fun _=>?_
 · cases decide (0≤i.getD 0 0)
   · exact hi 2
   · exact hi 1
 refine smp_ite (fun _=>?_) fun _=>smp_w _
 cases decide (0 < i.getD 1 0)
 · exact hs 0
 · exact hi 0
theorem noiseV_smp (s:Int):smp (noiseV s)=true:=by unfold noiseV; split<;>exact smp_w _
theorem smps_drop {xs:List Int} (h:smps xs=true) (n:Nat):smps (xs.drop n)=true:=smps_iff.2 fun x hx=>smps_iff.1 h x (List.mem_of_mem_drop hx)
theorem smps_snoc {xs:List Int} {x:Int} (h:smps xs=true) (hx:smp x=true):smps (xs++[x])=true:=by
 simp only[smps,List.all_append,Bool.and_eq_true] at *; exact ⟨h,by simpa using hx⟩
theorem smps_one {x:Int} (hx:smp x=true):smps [x]=true:=by simpa [smps] using hx
theorem nextV_ok {n:NodeD} {tabs:List (List Int)} {i s:List Int} {o:Int} (h:stepOk n tabs i s) (ho:smp o=true):(nextV n.1 i s o).length=(startV n).length∧smps (nextV n.1 i s o)=true:=by
 obtain ⟨kd,a,b,fr⟩:=n;obtain ⟨h1,h2,h3,h4,h5,h6⟩:=h;obtain ⟨q1,_,q3,_,_,_,q7,_⟩:=nodeB_ab h1
 have hi:=smps_at h5
 have hs:=smps_at h6
 rw [startV_len] at h4 ⊢
 simp only[nextV] at h4 ⊢
 split
 · rename_i e; simp only[e,if_true] at h4 ⊢; have:=q3 e; exact ⟨by simp only[List.length_append,List.length_drop,List.length_cons,List.length_nil]; omega,smps_snoc (smps_drop h6 _) (hi 0)⟩
 split
 · rename_i e; subst e; exact ⟨by simp,smps_one ho⟩
 split
 · rename_i e; subst e; exact ⟨by simp,smps_one (hi 0)⟩
 split
 · rename_i e; subst e; exact ⟨by simp,smps_one (smp_w _)⟩
 split
 · rename_i e; subst e; exact ⟨by simp,smps_one (noiseV_smp _)⟩
 split
 · rename_i e; subst e; exact ⟨by simp,smps_one ho⟩
 split
 · rename_i e; subst e; have:=q7 rfl; simp at h4; exact ⟨by simp; omega,smps_snoc (smps_drop h6 _) ho⟩
 · rename_i e1 e2 e3 e4 e5 e6 e7
   rw [if_neg (by omega)]
   exact ⟨rfl,rfl⟩
theorem startV_smp {n:NodeD} {tb:Int} (h:nodeB n tb=true):smps (startV n)=true:=by
 obtain ⟨kd,a,b,fr⟩:=n;obtain ⟨q1,_⟩:=nodeB_ab h
 have hz :∀m,smps (List.replicate m 0)=true:=fun m=>smps_iff.2 fun x hx=>by rw [(List.mem_replicate.1 hx).2]; rfl
 simp only[startV];repeat' split
 all_goals first | exact hz _ | rfl | exact smps_one q1
def StOk (p:PatchD) (s:List (List Int)):Prop:=s.length=p.2.2.1.length∧∀ i,i < p.2.2.1.length→(s.getD i []).length=(startV (p.2.2.1.getD i n0)).length∧smps (s.getD i [])=true
def startL (p:PatchD):List (List Int):=p.2.2.1.map startV
theorem node_at {p:PatchD} (h:formedB p=true) {i:Nat} (hi:i < p.2.2.1.length):nodeIn p (p.2.2.1.getD i n0)=true:=List.all_eq_true.1 (formedB_parts h).2.2.2.2.2.2 _ (getD_mem hi)
theorem startL_ok {p:PatchD} (h:formedB p=true):StOk p (startL p):=by
 refine ⟨by simp [startL],fun i hi=>?_⟩
 have e:(startL p).getD i []=startV (p.2.2.1.getD i n0):=by simp [startL,List.getD,hi]
 rw [e];exact ⟨rfl,startV_smp (nodeIn_parts (node_at h hi)).1⟩
def valsOk (p:PatchD) (v:List Int):Prop:=v.length=p.2.2.1.length∧smps v=true
theorem insV_ok {p:PatchD} {fr v:List Int} (h:formedB p=true) (hf:smps fr=true) (hv:smps v=true) (i:Nat):(insV (p.2.2.1.getD i n0) fr v).length=insN (p.2.2.1.getD i n0)∧smps (insV (p.2.2.1.getD i n0) fr v)=true:=by
 unfold insV insN
 split
 · exact ⟨rfl,smps_one (smps_at hf _)⟩
 · refine ⟨by simp,smps_iff.2 fun x hx=>?_⟩
   obtain ⟨y,_,rfl⟩:=List.mem_map.1 hx
   exact smps_at hv _
theorem step_at {p:PatchD} {s:List (List Int)} {fr v:List Int} (h:formedB p=true) (hs:StOk p s) (hf:smps fr=true) (hv:smps v=true) {i:Nat} (hi:i < p.2.2.1.length) :
 stepOk (p.2.2.1.getD i n0) p.2.1 (insV (p.2.2.1.getD i n0) fr v) (s.getD i []):=by
 obtain ⟨h1,h2⟩:=insV_ok h hf hv i
 exact ⟨(nodeIn_parts (node_at h hi)).1,(formedB_parts h).2.2.1,h1,(hs.2 i hi).1,h2,(hs.2 i hi).2⟩
def outP (p:PatchD) (s:List (List Int)) (fr v:List Int) (i:Nat):Int:=outV (p.2.2.1.getD i n0).1 (p.2.2.1.getD i n0).2.1 p.2.1 (insV (p.2.2.1.getD i n0) fr v) (s.getD i [])
def nextP (p:PatchD) (s:List (List Int)) (fr v:List Int) (o:Int) (i:Nat):List Int:=nextV (p.2.2.1.getD i n0).1 (insV (p.2.2.1.getD i n0) fr v) (s.getD i []) o
def valStep (p:PatchD) (s:List (List Int)) (fr v:List Int) (i:Int):List Int:=v.set i.toNat (outP p s fr v i.toNat)
def valsG (p:PatchD) (s:List (List Int)) (fr v0:List Int) (ord:List Int):List Int:=ord.foldl (valStep p s fr) v0
def valsL (p:PatchD) (s:List (List Int)) (fr:List Int):List Int:=valsG p s fr (List.replicate p.2.2.1.length 0) (ordL p.2.2.1)
def nextL (p:PatchD) (s:List (List Int)) (fr v:List Int):List (List Int):=(List.range p.2.2.1.length).map fun i=>nextP p s fr v (v.getD i 0) i
def outsL (p:PatchD) (v:List Int):List Int:=p.2.2.2.map fun i=>v.getD i.toNat 0
theorem getD_set {α:Type} {l:List α} {i j:Nat} {x d:α} (hi:i < l.length):(l.set i x).getD j d=if i=j then x else l.getD j d:=by
 rw [List.getD_eq_getElem?_getD,List.getElem?_set]
 split
 · rename_i e; subst e; simp [hi]
 · rw [List.getD_eq_getElem?_getD]
theorem smps_set {l:List Int} {i:Nat} {x:Int} (h:smps l=true) (hx:smp x=true):smps (l.set i x)=true:=smps_iff.2 fun y hy=>by
 rcases List.mem_or_eq_of_mem_set hy with hy | rfl
 · exact smps_iff.1 h y hy
 · exact hx
theorem valStep_ok {p:PatchD} {s:List (List Int)} {fr v:List Int} (h:formedB p=true) (hs:StOk p s) (hf:smps fr=true) (hv:valsOk p v) {i:Int} (h0:i.toNat < p.2.2.1.length):valsOk p (valStep p s fr v i) :=
 ⟨by unfold valStep; rw [List.length_set]; exact hv.1,smps_set hv.2 (outV_smp (step_at h hs hf hv.2 h0))⟩
theorem valsG_next {p:PatchD} {s:List (List Int)} {fr v0:List Int} {ord:List Int} {k:Nat} (hk:k < ord.length):valsG p s fr v0 (ord.take (k+1))=valStep p s fr (valsG p s fr v0 (ord.take k)) (ord.getD k 0):=by
 rw [take_next (d:=0) hk]; simp [valsG,List.foldl_append]
def GoodO (ns:List NodeD) (o:List Int):Prop:=∀ j,j < o.length→∃ i:Nat,o.getD j 0=(i:Int)∧i < ns.length∧(i:Int) ∉ o.take j∧∀ f∈waitsL (ns.getD i n0),f∈o.take j
theorem GoodO.ext {ns:List NodeD} {o:List Int} (h:GoodO ns o) {i:Nat} (hi:nextR ns o=some i):GoodO ns (o++[(i:Int)]):=by
 intro j hj
 rw [List.length_append] at hj;simp only[List.length_cons,List.length_nil] at hj
 by_cases hj':j < o.length
 · obtain ⟨i',h1,h2,h3,h4⟩:=h j hj'
   refine ⟨i',?_,h2,?_,?_⟩
   · rw [List.getD_eq_getElem?_getD,List.getElem?_append_left hj',← List.getD_eq_getElem?_getD]; exact h1
   · rw [List.take_append_of_le_length (by omega)]; exact h3
   · rw [List.take_append_of_le_length (by omega)]; exact h4
 · have e:j=o.length:=by omega
   subst e;have hf:=List.find?_some hi
   have hm:=List.mem_range.1 (List.mem_of_find?_eq_some hi)
   simp only[readyB,Bool.and_eq_true,Bool.not_eq_true',List.all_eq_true,List.contains_eq_mem,decide_eq_true_eq,decide_eq_false_iff_not] at hf
   refine ⟨i,by simp [List.getD],hm,?_,?_⟩
   · rw [List.take_append_of_le_length (by omega),List.take_length]; exact hf.1
   · rw [List.take_append_of_le_length (by omega),List.take_length]; exact hf.2
theorem ordGo_good {ns:List NodeD} :∀(k:Nat) {o:List Int},GoodO ns o→GoodO ns (ordGo ns k o):=by
 intro k
 induction k with
 | zero=>intro o h; exact h
 | succ k ih =>
   intro o h
   simp only[ordGo]
   split
   · exact h
   · rename_i i hi; exact ih (h.ext hi)
theorem ordL_good (ns:List NodeD):GoodO ns (ordL ns):=ordGo_good _ fun j hj=>by simp at hj
theorem mem_take_iff {o:List Int} {j:Nat} {x:Int}:x∈o.take j ↔∃i,i < j∧i < o.length∧o.getD i 0=x:=by
 rw [List.mem_take_iff_getElem]
 constructor
 · rintro ⟨i,hi,rfl⟩
   exact ⟨i,by omega,by omega,by simp [List.getD,show i < o.length by omega]⟩
 · rintro ⟨i,h1,h2,rfl⟩
   exact ⟨i,by omega,by simp [List.getD,h2]⟩
theorem pigeon :∀(n:Nat) (l:List Int),l.Nodup→(∀ x∈l,0≤x∧x < n)→l.length≤n:=by
 intro n
 induction n with
 | zero =>
   intro l _ h
   cases l with
   | nil=>simp
   | cons x l=>have:=h x List.mem_cons_self; omega
 | succ n ih =>
   intro l hn h
   have h1:=ih (l.erase n) (hn.erase _) fun x hx=>by
    have:=h x (List.mem_of_mem_erase hx)
    have hne:x≠n:=by rintro rfl; exact hn.not_mem_erase hx
    omega
   have h2:=@List.length_erase _ _ _ (n:Int) l
   split at h2<;>omega
theorem full {n:Nat} {l:List Int} (hn:l.Nodup) (h :∀x∈l,0≤x∧x < n) (hl:l.length=n) (i:Nat) (hi:i < n):(i:Int)∈l:=by
 apply Classical.byContradiction
 intro hc;have:=pigeon n ((i:Int)::l) (List.nodup_cons.2 ⟨hc,hn⟩) (fun x hx=>by rcases List.mem_cons.1 hx with rfl | hx; exact ⟨by omega,by omega⟩; exact h x hx)
 simp at this; omega
theorem GoodO.nodup {ns:List NodeD} {o:List Int} (h:GoodO ns o):o.Nodup:=by
 rw [List.nodup_iff_pairwise_ne,List.pairwise_iff_getElem];intro a b ha hb hab e
 obtain ⟨i,h1,h2,h3,_⟩:=h b hb
 apply h3
 rw [← h1];exact mem_take_iff.2 ⟨a,hab,ha,by simp [List.getD,ha,hb,e]⟩
theorem GoodO.full {ns:List NodeD} {o:List Int} (h:GoodO ns o) (hl:o.length=ns.length) {i:Nat} (hi:i < ns.length):(i:Int)∈o:=by
 refine Go.Proofs.YtgmabhkmiokiaaaGreat.full h.nodup (fun x hx=>?_) hl i hi
 obtain ⟨j,hj,rfl⟩:=List.mem_iff_getElem.1 hx
 obtain ⟨i',h1,h2,_⟩:=h j hj
 have:o.getD j 0=o[j]:=by simp [List.getD,hj]
 omega
theorem insV_agree {n:NodeD} {fr v v':List Int} (hd:n.1≠6) (h :∀f∈waitsL n,v.getD f.toNat 0=v'.getD f.toNat 0):insV n fr v=insV n fr v':=by
 unfold insV
 split
 · rfl
 · unfold waitsL at h;rw [decide_eq_false hd] at h;exact List.map_congr_left h
theorem outP_agree {p:PatchD} {s:List (List Int)} {fr v v':List Int} {i:Nat} (h :∀f∈waitsL (p.2.2.1.getD i n0),v.getD f.toNat 0=v'.getD f.toNat 0):outP p s fr v i=outP p s fr v' i:=by
 unfold outP
 by_cases hd:(p.2.2.1.getD i n0).1=6
 · rw [hd]; rfl
 · rw [insV_agree hd h]
def Sol (p:PatchD) (s:List (List Int)) (fr v:List Int) (o:List Int):Prop:=∀ x∈o,v.getD x.toNat 0=outP p s fr v x.toNat
theorem GoodO.at {ns:List NodeD} {o:List Int} (h:GoodO ns o) {x:Int} (hx:x∈o) :∃i:Nat,x=i∧i < ns.length:=by
 obtain ⟨j,hj,rfl⟩:=List.mem_iff_getElem.1 hx
 obtain ⟨i,h1,h2,_⟩:=h j hj
 exact ⟨i,by rw [← h1]; simp [List.getD,hj],h2⟩
theorem GoodO.waits {ns:List NodeD} {o:List Int} (h:GoodO ns o) {k:Nat} {i:Nat} (hi:(i:Int)∈o.take k) :∀f∈waitsL (ns.getD i n0),f∈o.take k:=by
 obtain ⟨j,h1,h2,h3⟩:=mem_take_iff.1 hi
 obtain ⟨i',h4,h5,h6,h7⟩:=h j h2
 have:i'=i:=by omega
 subst this;intro f hf
 obtain ⟨q,r1,r2,r3⟩:=mem_take_iff.1 (h7 f hf)
 exact mem_take_iff.2 ⟨q,by omega,r2,r3⟩
theorem mem_take_of {o:List Int} {k:Nat} {x:Int} (h:x∈o.take k):x∈o:=List.mem_of_mem_take h
theorem valsG_len {p:PatchD} {s:List (List Int)} {fr:List Int} :∀{o v:List Int},(valsG p s fr v o).length=v.length:=by
 intro o
 induction o with
 | nil=>intro v; rfl
 | cons x l ih=>intro v; simp only[valsG,List.foldl_cons] at *; rw [ih]; simp [valStep]
theorem sol_take {p:PatchD} {s:List (List Int)} {fr v0:List Int} {o:List Int} (h:GoodO p.2.2.1 o) (hl:v0.length=p.2.2.1.length) :∀k,k≤o.length→Sol p s fr (valsG p s fr v0 (o.take k)) (o.take k):=by
 intro k
 induction k with
 | zero=>intro _ x hx; simp at hx
 | succ k ih =>
   intro hk;have ih:=ih (by omega)
   obtain ⟨i,h1,h2,h3,h4⟩:=h k (by omega)
   rw [valsG_next (by omega),h1]
   have hlen:(valsG p s fr v0 (o.take k)).length=p.2.2.1.length:=by rw [valsG_len]; exact hl
   generalize valsG p s fr v0 (o.take k)=V at *
   have gd :∀x,x∈o.take k→(valStep p s fr V i).getD x.toNat 0=V.getD x.toNat 0:=fun x hx=>by
    obtain ⟨i',rfl,h5⟩:=h.at (mem_take_of hx)
    unfold valStep;simp only[Int.toNat_natCast];rw [getD_set (by omega),if_neg (by rintro rfl; exact h3 hx)]
   intro x hx
   rw [take_next (d:=0) (by omega),List.mem_append,List.mem_singleton,h1] at hx
   rcases hx with hx | rfl
   · rw [gd x hx,ih x hx];obtain ⟨i',rfl,h5⟩:=h.at (mem_take_of hx)
     simp only[Int.toNat_natCast];exact outP_agree fun f hf=>(gd f (h.waits hx f hf)).symm
   · have e:(valStep p s fr V i).getD i 0=outP p s fr V i:=by
      unfold valStep; simp only[Int.toNat_natCast]; rw [getD_set (by omega),if_pos rfl]
     simp only[Int.toNat_natCast];rw [e];exact outP_agree fun f hf=>(gd f (h4 f hf)).symm
theorem sol_all {p:PatchD} {s:List (List Int)} {fr v0:List Int} {o:List Int} (h:GoodO p.2.2.1 o) (hl:v0.length=p.2.2.1.length):Sol p s fr (valsG p s fr v0 o) o:=by
 have:=sol_take (s:=s) (fr:=fr) h hl o.length (Nat.le_refl _)
 rwa [List.take_length] at this
theorem sol_unique {p:PatchD} {s:List (List Int)} {fr v v':List Int} {o:List Int} (h:GoodO p.2.2.1 o) (h1:Sol p s fr v o) (h2:Sol p s fr v' o) :∀k,k≤o.length→∀ x∈o.take k,v.getD x.toNat 0=v'.getD x.toNat 0:=by
 intro k
 induction k with
 | zero=>intro _ x hx; simp at hx
 | succ k ih =>
   intro hk x hx
   rw [take_next (d:=0) (by omega),List.mem_append,List.mem_singleton] at hx
   rcases hx with hx | rfl
   · exact ih (by omega) x hx
   · obtain ⟨i,e1,e2,e3,e4⟩:=h k (by omega)
     have hm:o.getD k 0∈o:=getD_mem (by omega)
     rw [h1 _ hm,h2 _ hm,e1];exact outP_agree fun f hf=>ih (by omega) f (e4 f (by simpa using hf))
theorem vals_eq {p:PatchD} {s:List (List Int)} {fr v0 v1:List Int} {o:List Int} (h:GoodO p.2.2.1 o) (ho:o.length=p.2.2.1.length) (h0:v0.length=p.2.2.1.length) (h1:v1.length=p.2.2.1.length):valsG p s fr v0 o=valsG p s fr v1 o:=by
 apply List.ext_getElem (by rw [valsG_len,valsG_len]; omega)
 intro i hi hi'
 rw [valsG_len] at hi;have hm:=h.full ho (i:=i) (by omega)
 have:=sol_unique h (sol_all (s:=s) (fr:=fr) h h0) (sol_all (s:=s) (fr:=fr) h h1) o.length (Nat.le_refl _) i (by rw [List.take_length]; exact hm)
 simpa [List.getD,valsG_len,hi,hi',h1,h0,show i < p.2.2.1.length by omega] using this
def playStep (p:PatchD) (fr:List Int) (st:List Int × List (List Int)) (i:Int):List Int × List (List Int) :=
 (st.1.set i.toNat (outP p st.2 fr st.1 i.toNat),match decide ((p.2.2.1.getD i.toNat n0).1=6) with | true=>st.2 | false=>st.2.set i.toNat (nextP p st.2 fr st.1 (outP p st.2 fr st.1 i.toNat) i.toNat))
def playG (p:PatchD) (fr:List Int) (st:List Int × List (List Int)) (o:List Int):List Int × List (List Int):=o.foldl (playStep p fr) st
def lateStep (p:PatchD) (fr v:List Int) (s:List (List Int)) (i:Nat):List (List Int):=match decide ((p.2.2.1.getD i n0).1=6) with | true=>s.set i (nextP p s fr v (outP p s fr v i) i) | false=>s
def lateG (p:PatchD) (fr v:List Int) (s:List (List Int)):Nat→List (List Int)
 | 0=>s
 | k+1=>lateStep p fr v (lateG p fr v s k) k
def playL (p:PatchD) (v0:List Int) (s:List (List Int)) (fr:List Int):List Int × List (List Int) :=
 let r:=playG p fr (v0,s) (ordL p.2.2.1)
 (r.1,lateG p fr r.1 r.2 p.2.2.1.length)
theorem playG_next {p:PatchD} {fr:List Int} {st:List Int × List (List Int)} {o:List Int} {k:Nat} (hk:k < o.length):playG p fr st (o.take (k+1))=playStep p fr (playG p fr st (o.take k)) (o.getD k 0):=by
 rw [take_next (d:=0) hk]; simp [playG,List.foldl_append]
theorem outP_st {p:PatchD} {s s':List (List Int)} {fr v:List Int} {i:Nat} (h:s.getD i []=s'.getD i []):outP p s fr v i=outP p s' fr v i:=by unfold outP; rw [h]
theorem nextP_st {p:PatchD} {s s':List (List Int)} {fr v:List Int} {o:Int} {i:Nat} (h:s.getD i []=s'.getD i []):nextP p s fr v o i=nextP p s' fr v o i:=by unfold nextP; rw [h]
theorem play_take {p:PatchD} {s:List (List Int)} {fr v0:List Int} {o:List Int} (h:GoodO p.2.2.1 o) (hl:v0.length=p.2.2.1.length) (hs:s.length=p.2.2.1.length) :∀k,k≤o.length →
 (playG p fr (v0,s) (o.take k)).1=valsG p s fr v0 (o.take k)∧(playG p fr (v0,s) (o.take k)).2.length=s.length ∧
 ∀ i:Nat,i < p.2.2.1.length→(playG p fr (v0,s) (o.take k)).2.getD i []=(if (i:Int)∈o.take k∧(p.2.2.1.getD i n0).1≠6 then nextP p s fr (valsG p s fr v0 (o.take k)) ((valsG p s fr v0 (o.take k)).getD i 0) i else s.getD i []):=by
 intro k
 induction k with
 | zero=>intro _; refine ⟨rfl,rfl,fun i hi=>?_⟩; rw [if_neg (by simp)]; rfl
 | succ k ih =>
   intro hk;obtain ⟨e1,e2,e3⟩:=ih (by omega)
   obtain ⟨i0,h1,h2,h3,h4⟩:=h k (by omega)
   have hgood:=sol_take (s:=s) (fr:=fr) h hl (k+1) hk
   have hw:=@GoodO.waits _ _ h (k+1)
   rw [valsG_next (by omega),h1] at hgood
   rw [playG_next (by omega),valsG_next (by omega),h1]
   have hlen:(valsG p s fr v0 (o.take k)).length=p.2.2.1.length:=by rw [valsG_len]; exact hl
   generalize playG p fr (v0,s) (o.take k)=st at *
   generalize valsG p s fr v0 (o.take k)=V at *
   obtain ⟨v1,s1⟩:=st;simp only at e1 e2 e3
   subst e1;have es:s1.getD i0 []=s.getD i0 []:=by rw [e3 i0 h2,if_neg (by rintro ⟨q,_⟩; exact h3 q)]
   have eo:outP p s1 fr v1 i0=outP p s fr v1 i0:=outP_st es
   have gd :∀x,x∈o.take k→(valStep p s fr v1 i0).getD x.toNat 0=v1.getD x.toNat 0:=fun x hx=>by
    obtain ⟨i',rfl,h5⟩:=h.at (mem_take_of hx)
    unfold valStep;simp only[Int.toNat_natCast];rw [getD_set (by omega),if_neg (by rintro rfl; exact h3 hx)]
   refine ⟨by simp only[playStep,valStep,Int.toNat_natCast,eo],?_,fun i hi=>?_⟩
   · simp only[playStep]; split<;>simp [e2]
   rw [take_next (d:=0) (by omega),h1]
   have hv0:(valStep p s fr v1 i0).getD i0 0=outP p s fr v1 i0:=by unfold valStep; simp only[Int.toNat_natCast]; rw [getD_set (by omega),if_pos rfl]
   by_cases hii:i=i0
   · subst hii;simp only[playStep,Int.toNat_natCast]
     by_cases hd:(p.2.2.1.getD i n0).1=6
     · rw [decide_eq_true hd,if_neg (by rintro ⟨_,q⟩; exact q hd)]; exact es
     · rw [decide_eq_false hd,if_pos ⟨by simp,hd⟩]
       simp only
       rw [getD_set (by omega),if_pos rfl,eo,nextP_st es,hv0]
       unfold nextP;rw [insV_agree hd (v':=valStep p s fr v1 i) fun f hf=>(gd f (h4 f hf)).symm]
   · have e5:(playStep p fr (v1,s1) i0).2.getD i []=s1.getD i []:=by
      simp only[playStep,Int.toNat_natCast]
      split
      · rfl
      · rw [getD_set (by omega),if_neg (by omega)]
     rw [e5,e3 i hi];have hiff:((i:Int)∈o.take k++[(i0:Int)])↔(i:Int)∈o.take k:=by simp; omega
     by_cases hc:(i:Int)∈o.take k∧(p.2.2.1.getD i n0).1≠6
     · rw [if_pos hc,if_pos ⟨hiff.2 hc.1,hc.2⟩]
       have g1:=gd i hc.1
       simp only[Int.toNat_natCast] at g1
       rw [g1];unfold nextP;rw [insV_agree hc.2 (v':=valStep p s fr v1 i0) fun f hf=>(gd f (h.waits hc.1 f hf)).symm]
     · rw [if_neg hc,if_neg fun q=>hc ⟨hiff.1 q.1,q.2⟩]
theorem late_take {p:PatchD} {s:List (List Int)} {fr v:List Int} (hs:s.length=p.2.2.1.length) :∀k,k≤p.2.2.1.length→(lateG p fr v s k).length=s.length ∧
 ∀ i:Nat,(lateG p fr v s k).getD i []=(if i < k∧(p.2.2.1.getD i n0).1=6 then nextP p s fr v (outP p s fr v i) i else s.getD i []):=by
 intro k
 induction k with
 | zero=>intro _; exact ⟨rfl,fun i=>by rw [if_neg (by omega)]; rfl⟩
 | succ k ih =>
   intro hk;obtain ⟨e1,e2⟩:=ih (by omega)
   simp only[lateG,lateStep];have es:(lateG p fr v s k).getD k []=s.getD k []:=by rw [e2 k,if_neg (by omega)]
   by_cases hd:(p.2.2.1.getD k n0).1=6
   · rw [decide_eq_true hd];refine ⟨by simp [e1],fun i=>?_⟩
     simp only
     rw [getD_set (by omega)]
     by_cases hi:k=i
     · subst hi; rw [if_pos rfl,if_pos ⟨by omega,hd⟩,outP_st es,nextP_st es]
     · rw [if_neg hi,e2 i]
       by_cases hc:i < k∧(p.2.2.1.getD i n0).1=6
       · rw [if_pos hc,if_pos ⟨by omega,hc.2⟩]
       · rw [if_neg hc,if_neg fun q=>hc ⟨by omega,q.2⟩]
   · rw [decide_eq_false hd];refine ⟨e1,fun i=>?_⟩
     simp only
     rw [e2 i]
     by_cases hc:i < k∧(p.2.2.1.getD i n0).1=6
     · rw [if_pos hc,if_pos ⟨by omega,hc.2⟩]
     · rw [if_neg hc,if_neg fun q=>hc ⟨by rcases Nat.lt_succ_iff_lt_or_eq.1 q.1 with q' | q'; exact q'; subst q'; exact absurd q.2 hd,q.2⟩]
theorem nextL_len {p:PatchD} {s:List (List Int)} {fr v:List Int}:(nextL p s fr v).length=p.2.2.1.length:=by simp [nextL]
theorem nextL_at {p:PatchD} {s:List (List Int)} {fr v:List Int} {i:Nat} (hi:i < p.2.2.1.length):(nextL p s fr v).getD i []=nextP p s fr v (v.getD i 0) i:=by simp [nextL,List.getD,hi]
theorem patchB_parts {p:PatchD} (h:patchB p=true):formedB p=true∧(ordL p.2.2.1).length=p.2.2.1.length:=by
 simp only[patchB,Bool.and_eq_true,decide_eq_true_eq] at h; exact h
theorem play_eq {p:PatchD} {s:List (List Int)} {fr v0:List Int} (h:patchB p=true) (hl:v0.length=p.2.2.1.length) (hs:s.length=p.2.2.1.length):playL p v0 s fr=(valsL p s fr,nextL p s fr (valsL p s fr)):=by
 obtain ⟨hf,ho⟩:=patchB_parts h
 have hg:=ordL_good p.2.2.1
 obtain ⟨e1,e2,e3⟩:=play_take (s:=s) (fr:=fr) hg hl hs _ (Nat.le_refl _)
 rw [List.take_length] at e1 e2 e3
 have ev:valsG p s fr v0 (ordL p.2.2.1)=valsL p s fr:=vals_eq hg ho hl (by simp)
 rw [ev] at e1 e3
 unfold playL;simp only
 generalize playG p fr (v0,s) (ordL p.2.2.1)=st at *
 obtain ⟨v1,s1⟩:=st;simp only at e1 e2 e3 ⊢
 subst e1;obtain ⟨l1,l2⟩:=late_take (p:=p) (s:=s1) (fr:=fr) (v:=valsL p s fr) (by omega) _ (Nat.le_refl _)
 congr 1
 apply List.ext_getElem (by rw [l1,nextL_len]; omega)
 intro i hi hi'
 rw [nextL_len] at hi'
 have k1:=l2 i
 have hsol:(valsL p s fr).getD i 0=outP p s fr (valsL p s fr) i:=by
  have:=sol_all (s:=s) (fr:=fr) (v0:=List.replicate p.2.2.1.length 0) hg (by simp) i (hg.full ho hi')
  exact this
 have key:(lateG p fr (valsL p s fr) s1 p.2.2.1.length).getD i []=(nextL p s fr (valsL p s fr)).getD i []:=by
  rw [k1,nextL_at hi',hsol]
  by_cases hd:(p.2.2.1.getD i n0).1=6
  · have es:s1.getD i []=s.getD i []:=by rw [e3 i hi',if_neg (by rintro ⟨_,q⟩; exact q hd)]
    rw [if_pos ⟨hi',hd⟩,nextP_st es,outP_st es]
  · rw [if_neg (by rintro ⟨_,q⟩; exact hd q),e3 i hi',if_pos ⟨hg.full ho hi',hd⟩,hsol]
 simpa [List.getD,hi,nextL_len,hi'] using key
theorem valsL_ok {p:PatchD} {s:List (List Int)} {fr v0:List Int} (h:formedB p=true) (hs:StOk p s) (hf:smps fr=true) (hv:valsOk p v0) :∀k,k≤(ordL p.2.2.1).length→valsOk p (valsG p s fr v0 ((ordL p.2.2.1).take k)):=by
 intro k
 induction k with
 | zero=>intro _; exact hv
 | succ k ih =>
   intro hk;rw [valsG_next (by omega)]
   obtain ⟨i,h1,h2,_⟩:=ordL_good p.2.2.1 k (by omega)
   rw [h1];exact valStep_ok h hs hf (ih (by omega)) (by simpa using h2)
theorem vals0_ok (p:PatchD):valsOk p (List.replicate p.2.2.1.length 0):=⟨by simp,smps_iff.2 fun x hx=>by rw [(List.mem_replicate.1 hx).2]; rfl⟩
theorem valsL_ok' {p:PatchD} {s:List (List Int)} {fr:List Int} (h:formedB p=true) (hs:StOk p s) (hf:smps fr=true):valsOk p (valsL p s fr):=by
 have:=valsL_ok h hs hf (vals0_ok p) _ (Nat.le_refl _)
 rwa [List.take_length] at this
theorem nextL_ok {p:PatchD} {s:List (List Int)} {fr v:List Int} (h:formedB p=true) (hs:StOk p s) (hf:smps fr=true) (hv:valsOk p v):StOk p (nextL p s fr v):=by
 refine ⟨nextL_len,fun i hi=>?_⟩
 rw [nextL_at hi];exact nextV_ok (step_at h hs hf hv.2 hi) (smps_at hv.2 i)
def stepC (n:NodeD) (tabs:List (List Int)) (i s:List Int):Prop:=(∃ tb:Int,nodeB n tb=true∧(n.1=13→tb=tabs.length∧tabsB tabs=true))∧i.length=insN n∧s.length=(startV n).length∧smps i=true∧smps s=true
theorem stepOk.c {n:NodeD} {tabs:List (List Int)} {i s:List Int} (h:stepOk n tabs i s):stepC n tabs i s:=⟨⟨_,h.1,fun _=>⟨rfl,h.2.1⟩⟩,h.2.2.1,h.2.2.2.1,h.2.2.2.2.1,h.2.2.2.2.2⟩
theorem stepOk.c6 {n:NodeD} {tabs ts:List (List Int)} {i s:List Int} (h:stepOk n tabs i s) (h6:n.1=6):stepC n ts i s:=⟨⟨_,h.1,fun e=>by omega⟩,h.2.2.1,h.2.2.2.1,h.2.2.2.2.1,h.2.2.2.2.2⟩
theorem stepC_parts {kd a b:Int} {fr:List Int} {tabs:List (List Int)} {i s:List Int} (h:stepC (kd,a,b,fr) tabs i s) :
 1≤kd∧kd≤17∧(kd=3∨kd=4∨kd=9∨kd=16→i.length=2)∧(kd=1∨kd=5∨kd=6∨kd=7∨kd=8∨kd=10∨kd=11∨kd=12∨kd=13∨kd=17→i.length=1)∧(kd=15→i.length=3) ∧
 (kd=6→s.length=a.toNat∧1≤a∧a≤16)∧(kd=17→s.length=b.toNat∧1≤b∧b≤16)∧(kd=7∨kd=8∨kd=16∨kd=12∨kd=14→s.length=1)∧(kd=10→0≤a∧a≤31)∧(kd=11→0≤a) ∧
 (kd=13→0≤a∧a≤3∧a < tabs.length∧1≤(tabs.getD a.toNat []).length∧(tabs.getD a.toNat []).length≤16)∧-2147483648≤a∧a≤2147483647:=by
 obtain ⟨⟨tb,h1,h2⟩,h3,h4,h5,h6⟩:=h
 obtain ⟨q1,q2,q3,q4,q5,q6,q7,q8,q9,q10,q11⟩:=nodeB_ab h1
 obtain ⟨r1,r2,_⟩:=nodeB_parts h1
 rw [startV_len] at h4;simp only at h2 h4 r1 r2
 have hi:i.length=if kd=1 then 1 else fr.length:=by
  rw [h3]; unfold insN; simp only
  by_cases hk:kd=1
  · rw [decide_eq_true hk,if_pos hk]
  · rw [decide_eq_false hk,if_neg hk]
 rw [smp_iff] at q1;refine ⟨r1,r2,fun e=>?_,fun e=>?_,fun e=>?_,fun e=>?_,fun e=>?_,fun e=>?_,q4,q5,fun e=>?_,q1.1,q1.2⟩
 · rw [hi,if_neg (by omega)]; exact q8 e
 · rw [hi]; split; · rfl
   · exact q9 (by omega)
 · rw [hi,if_neg (by omega)]; exact q10 e
 · rw [if_pos e] at h4; exact ⟨h4,q3 e⟩
 · rw [if_neg (by omega),if_pos e] at h4; exact ⟨h4,q7 e⟩
 · rw [if_neg (by omega),if_neg (by omega),if_pos (by omega)] at h4; exact h4
 · obtain ⟨e1,e2⟩:=h2 e
   obtain ⟨a1,a2,a3⟩:=q6 e
   have hlt:a.toNat < tabs.length:=by omega
   have:=((tabsB_parts e2).2 _ (getD_mem (d:=[]) hlt)).1
   exact ⟨a1,a2,by omega,by omega,by omega⟩
theorem stepC_smp {kd a b:Int} {fr:List Int} {tabs:List (List Int)} {i s:List Int} (h:stepC (kd,a,b,fr) tabs i s) (j:Nat):(-2147483648≤i.getD j 0∧i.getD j 0≤2147483647)∧-2147483648≤s.getD j 0∧s.getD j 0≤2147483647 :=
 ⟨smp_iff.1 (smps_at h.2.2.2.1 j),smp_iff.1 (smps_at h.2.2.2.2 j)⟩
def nodeC (n:NodeD):Prop:=∃ tb:Int,nodeB n tb=true
theorem nodeC_parts {kd a b:Int} {fr:List Int} (h:nodeC (kd,a,b,fr)):1≤kd∧kd≤17∧(kd=6→1≤a∧a≤16)∧(kd=17→1≤b∧b≤16):=by
 obtain ⟨tb,h⟩:=h;obtain ⟨q1,q2,q3,q4,q5,q6,q7,_⟩:=nodeB_ab h
 obtain ⟨r1,r2,_⟩:=nodeB_parts h
 exact ⟨r1,r2,q3,q7⟩
theorem w3264 (n:Int):IntKind.i64.wrap (IntKind.i32.wrap n)=wrap32 n:=by
 rw [show IntKind.i32.wrap n=wrap32 n by simp [IntKind.wrap,wrap32,IntKind.bits,IntKind.signed]<;>omega,wrapI (by have:=wrap32_bd n; omega)]
theorem w32_wrap (n:Int):wrap32 (IntKind.i64.wrap n)=wrap32 n:=by
 rw [show IntKind.i64.wrap n=wrap64 n by simp [IntKind.wrap,wrap64,IntKind.bits,IntKind.signed]<;>omega,wrap32_64]
theorem unsE (n:Int):IntKind.i64.wrap (IntKind.u32.wrap n)=uns n:=by
 rw [show IntKind.u32.wrap n=uns n by simp [IntKind.wrap,uns,IntKind.bits,IntKind.signed]<;>omega,wrapI (by unfold uns; omega)]
theorem uns_bd (n:Int):0≤uns n∧uns n≤4294967295:=by unfold uns; omega
theorem andM (n:Int):IntKind.i64.wrap ((BitVec.ofInt IntKind.i64.bits n &&& BitVec.ofInt IntKind.i64.bits 4294967295).toNat:Int)=uns n:=mask32 n
theorem nextV_none {kd:Int} {i s:List Int} {o:Int} (h1:kd≠6) (h2:kd≠7) (h3:kd≠8) (h4:kd≠12) (h5:kd≠14) (h6:kd≠16) (h7:kd≠17):nextV kd i s o=[]:=by
 unfold nextV; rw [if_neg h1,if_neg h2,if_neg h3,if_neg h4,if_neg h5,if_neg h6,if_neg h7]
theorem startV_none {kd a b:Int} {fr:List Int} (h1:kd≠6) (h2:kd≠7) (h3:kd≠8) (h4:kd≠12) (h5:kd≠14) (h6:kd≠16) (h7:kd≠17):startV (kd,a,b,fr)=[]:=by
 unfold startV; simp [h1,h2,h3,h4,h5,h6,h7]
theorem fdiv32 (n:Int):n.fdiv (2 ^ (min (Int.toNat 32) IntKind.i64.bits))=n / 4294967296:=by
 rw [show (2:Int) ^ (min (Int.toNat 32) IntKind.i64.bits)=4294967296 from rfl,Int.fdiv_eq_ediv_of_nonneg _ (by omega)]
theorem fdiv32' (n:Int):n.fdiv (2 ^ (min 32 64))=n / 4294967296:=fdiv32 n
theorem clip_eq {a x:Int} (h:0≤a∧a≤2147483647):(if (if x < a then x else a) > IntKind.i64.wrap (0 - a) then (if x < a then x else a) else IntKind.i64.wrap (0 - a))=clipV a x:=by
 rw [wrapI (by omega)]; unfold clipV; (repeat' split)<;>omega
theorem look_bd {t:List Int} {x:Int} (h:1≤t.length) (h2:t.length≤16):0≤(t.length:Int) * uns x∧(t.length:Int) * uns x≤68719476720∧0≤((t.length:Int) * uns x) / 4294967296∧((t.length:Int) * uns x) / 4294967296 < t.length:=by
 obtain ⟨a1,a2⟩:=uns_bd x
 generalize uns x=u at *
 have b1:=Int.mul_nonneg (show (0:Int)≤t.length by omega) a1
 have b2:(t.length:Int) * u≤t.length * 4294967295:=Int.mul_le_mul_of_nonneg_left a2 (by omega)
 refine ⟨b1,by omega,Int.ediv_nonneg b1 (by omega),?_⟩
 exact Int.ediv_lt_of_lt_mul (by omega) (by omega)
theorem and1 (n:Int):IntKind.i64.wrap ((BitVec.ofInt IntKind.i64.bits n &&& BitVec.ofInt IntKind.i64.bits 1).toNat:Int)=n % 2:=by
 have e:BitVec.ofInt IntKind.i64.bits 1=BitVec.ofNat 64 (2 ^ 1 - 1):=rfl
 have h:((BitVec.ofInt 64 n &&& BitVec.ofNat 64 (2 ^ 1 - 1)).toNat:Int)=n % 2:=by
  rw [BitVec.toNat_and,BitVec.toNat_ofNat,show (2 ^ 1 - 1) % 2 ^ 64=2 ^ 1 - 1 from rfl,Nat.and_two_pow_sub_one_eq_mod,BitVec.toNat_ofInt]
  omega
 rw [show ((BitVec.ofInt IntKind.i64.bits n &&& BitVec.ofInt IntKind.i64.bits 1).toNat:Int)=n % 2 from h]
 exact wrapI (by omega)
theorem xorE (n:Int):IntKind.i64.wrap ((BitVec.ofInt IntKind.i64.bits n ^^^ BitVec.ofInt IntKind.i64.bits 2734686208).toNat:Int)=xorC n:=rfl
theorem noiseV_t {s:Int} (h:s % 2=1):noiseV s=wrap32 (xorC (uns s / 2)):=by unfold noiseV; rw [decide_eq_true h]
theorem noiseV_f {s:Int} (h:¬ s % 2=1):noiseV s=wrap32 (uns s / 2):=by unfold noiseV; rw [decide_eq_false h]
theorem map_next3 {α β:Type} {f:α→β} {xs:List α} {k:Nat} (d:α) (h:k < xs.length):(xs.take k).map f++[f (xs.getD k d)]=(xs.take (k+1)).map f:=by
 rw [take_next (d:=d) h,List.map_append,List.map_cons,List.map_nil]
theorem wrapU {n:Int} (h:0≤n∧n≤9223372036854775807):IntKind.u64.wrap n=n:=by
 simp [IntKind.wrap,IntKind.bits,IntKind.signed]; omega
theorem outV_15t {a:Int} {tb:List (List Int)} {i s:List Int} (h:0≤i.getD 0 0):outV 15 a tb i s=i.getD 1 0:=by
 show (match decide (0≤i.getD 0 0) with | true=>i.getD 1 0 | false=>i.getD 2 0)=_
 rw [decide_eq_true h]
theorem outV_15f {a:Int} {tb:List (List Int)} {i s:List Int} (h:¬ 0≤i.getD 0 0):outV 15 a tb i s=i.getD 2 0:=by
 show (match decide (0≤i.getD 0 0) with | true=>i.getD 1 0 | false=>i.getD 2 0)=_
 rw [decide_eq_false h]
theorem outV_16t {a:Int} {tb:List (List Int)} {i s:List Int} (h:0 < i.getD 1 0):outV 16 a tb i s=i.getD 0 0:=by
 show (match decide (0 < i.getD 1 0) with | true=>i.getD 0 0 | false=>s.getD 0 0)=_
 rw [decide_eq_true h]
theorem outV_16f {a:Int} {tb:List (List Int)} {i s:List Int} (h:¬ 0 < i.getD 1 0):outV 16 a tb i s=s.getD 0 0:=by
 show (match decide (0 < i.getD 1 0) with | true=>i.getD 0 0 | false=>s.getD 0 0)=_
 rw [decide_eq_false h]
theorem andM' (n:Int):IntKind.i64.wrap ((@BitVec.toNat 64 (@HAnd.hAnd (BitVec 64) (BitVec 64) (BitVec 64) (@instHAndOfAndOp (BitVec IntKind.i64.bits) (@BitVec.instAndOp IntKind.i64.bits)) (BitVec.ofInt 64 n) (BitVec.ofInt 64 4294967295)):Nat):Int)=uns n:=andM n
theorem and1' (n:Int):IntKind.i64.wrap ((@BitVec.toNat 64 (@HAnd.hAnd (BitVec 64) (BitVec 64) (BitVec 64) (@instHAndOfAndOp (BitVec IntKind.i64.bits) (@BitVec.instAndOp IntKind.i64.bits)) (BitVec.ofInt 64 n) (BitVec.ofInt 64 1)):Nat):Int)=n % 2:=and1 n
theorem xorE' (n:Int):IntKind.i64.wrap ((@BitVec.toNat 64 (@HXor.hXor (BitVec 64) (BitVec 64) (BitVec 64) (@instHXorOfXorOp (BitVec IntKind.i64.bits) (@BitVec.instXorOp IntKind.i64.bits)) (BitVec.ofInt 64 n) (BitVec.ofInt 64 2734686208)):Nat):Int)=xorC n:=rfl
theorem fdiv1' (n:Int):n.fdiv (2 ^ (min 1 64))=n / 2:=by
 rw [show (2:Int) ^ (min 1 64)=2 from rfl,Int.fdiv_eq_ediv_of_nonneg _ (by omega)]
theorem w32_add2 (x y:Int):wrap32 (IntKind.i64.wrap (x+IntKind.i64.wrap y))=wrap32 (x+y):=by
 rw [w32_wrap];have h:=w32_wrap y
 rw [← wrap32_add x (IntKind.i64.wrap y),h,wrap32_add]
theorem wAdd (x y:Int):wrap32 (IntKind.i64.wrap (wrap32 x+wrap32 y))=wrap32 (x+y):=by rw [w32_wrap,wrap32_add]
theorem wSub (x y:Int):wrap32 (IntKind.i64.wrap (wrap32 x - wrap32 y))=wrap32 (x - y):=by rw [w32_wrap,wrap32_sub]
theorem wMul (x y:Int):wrap32 (IntKind.i64.wrap (wrap32 x * wrap32 y))=wrap32 (x * y):=by rw [w32_wrap,wrap32_mul]
theorem wAM (x a s:Int):wrap32 (x+wrap32 (a * s))=wrap32 (x+a * s):=by
 rw [← wrap32_add x (wrap32 (a * s)),wrap32_idem,wrap32_add]
theorem clip_eq2 {a x:Int} (h:0≤a∧a≤2147483647):iMax (IntKind.i64.wrap (0 - a)) (iMin x a)=clipV a x:=by
 rw [wrapI (by omega)]; unfold clipV iMax iMin; rw [show (0:Int) - a=-a by omega]
theorem wrap32_t {x:Int} (h:2147483647 < uns x):uns x - 4294967296=wrap32 x:=by unfold uns wrap32 at *; omega
theorem wrap32_f {x:Int} (h:uns x≤2147483647):uns x=wrap32 x:=by unfold uns wrap32 at *; omega
theorem noiseU_t {s:Int} (h:uns s % 2=1):noiseV s=wrap32 (xorC (uns s / 2)):=noiseV_t (by unfold uns at h; omega)
theorem noiseU_f {s:Int} (h:¬ uns s % 2=1):noiseV s=wrap32 (uns s / 2):=noiseV_f (by unfold uns at h; omega)
theorem outV_nos {kd a:Int} {tb:List (List Int)} {i s:List Int} (h:kd=1∨kd=2∨kd=3∨kd=4∨kd=5∨kd=9∨kd=10∨kd=11∨kd=13∨kd=15):outV kd a tb i []=outV kd a tb i s:=by
 rcases h with rfl | rfl | rfl | rfl | rfl | rfl | rfl | rfl | rfl | rfl<;>rfl
def insC (n:NodeD) (frame vals:List Int):Prop:=(n.1=1→0≤n.2.1∧n.2.1 < frame.length)∧idxs vals.length n.2.2.2=true∧n.2.2.2.length≤1000
theorem insC_of {p:PatchD} {fr v:List Int} (h:formedB p=true) (hf:(fr.length:Int)=p.1) (hv:v.length=p.2.2.1.length) {i:Nat} (hi:i < p.2.2.1.length):insC (p.2.2.1.getD i n0) fr v:=by
 obtain ⟨h1,h2,h3⟩:=nodeIn_parts (node_at h hi)
 generalize p.2.2.1.getD i n0=n at *
 obtain ⟨kd,a,b,ff⟩:=n;obtain ⟨q1,q2,q3,q4,q5,q6,q7,q8,q9,q10,q11⟩:=nodeB_ab h1
 obtain ⟨r1,r2,_⟩:=nodeB_parts h1
 simp only at h2 h3 r1 r2
 refine ⟨fun e=>?_,by rw [hv]; exact h2,?_⟩
 · have e:kd=1:=e
   have:=q2 e
   exact ⟨this.1,by show a < _; omega⟩
 · show ff.length≤1000
   have c:kd=3∨kd=4∨kd=9∨kd=16∨(kd=5∨kd=6∨kd=7∨kd=8∨kd=10∨kd=11∨kd=12∨kd=13∨kd=17)∨kd=15∨kd=1∨kd=2∨kd=14:=by omega
   have:=@kT_le kd
   have h5:=(nodeB_parts h1).2.2.2.2.1
   simp only at h5
   omega
theorem insV_t {kd a b:Int} {ff fr v:List Int} (h:kd=1):insV (kd,a,b,ff) fr v=[fr.getD a.toNat 0]:=by unfold insV; simp only[decide_eq_true h]
theorem insV_f {kd a b:Int} {ff fr v:List Int} (h:¬ kd=1):insV (kd,a,b,ff) fr v=ff.map fun q=>v.getD q.toNat 0:=by unfold insV; simp only[decide_eq_false h]
theorem outP_6 {p:PatchD} {s:List (List Int)} {fr v:List Int} {i:Nat} (h:(p.2.2.1.getD i n0).1=6):outP p s fr v i=(s.getD i []).getD 0 0:=by unfold outP; rw [h]; rfl
theorem stOk_set {p:PatchD} {s:List (List Int)} {i:Nat} {c:List Int} (h:StOk p s) (hc:c.length=(startV (p.2.2.1.getD i n0)).length∧smps c=true):StOk p (s.set i c):=by
 refine ⟨by rw [List.length_set]; exact h.1,fun j hj=>?_⟩
 by_cases hi:i < s.length
 · rw [getD_set hi]
   split
   · rename_i e; subst e; exact hc
   · exact h.2 j hj
 · rw [List.set_eq_of_length_le (by omega)]; exact h.2 j hj
theorem play_ok {p:PatchD} {s:List (List Int)} {fr v0:List Int} (h:formedB p=true) (hs:StOk p s) (hf:smps fr=true) (hv:valsOk p v0) :∀k,k≤(ordL p.2.2.1).length→valsOk p (playG p fr (v0,s) ((ordL p.2.2.1).take k)).1∧StOk p (playG p fr (v0,s) ((ordL p.2.2.1).take k)).2:=by
 intro k
 induction k with
 | zero=>intro _; exact ⟨hv,hs⟩
 | succ k ih =>
   intro hk;obtain ⟨a1,a2⟩:=ih (by omega)
   obtain ⟨i,h1,h2,_⟩:=ordL_good p.2.2.1 k (by omega)
   rw [playG_next (by omega),h1]
   generalize playG p fr (v0,s) ((ordL p.2.2.1).take k)=st at *
   obtain ⟨v1,s1⟩:=st;simp only at a1 a2
   have hst:=step_at h a2 hf a1.2 h2
   have ho:=outV_smp hst
   simp only[playStep,Int.toNat_natCast];refine ⟨⟨by rw [List.length_set]; exact a1.1,smps_set a1.2 ho⟩,?_⟩
   split
   · exact a2
   · exact stOk_set a2 (nextV_ok hst ho)
theorem late_ok {p:PatchD} {s:List (List Int)} {fr v:List Int} (h:formedB p=true) (hs:StOk p s) (hf:smps fr=true) (hv:valsOk p v) :∀k,k≤p.2.2.1.length→StOk p (lateG p fr v s k):=by
 intro k
 induction k with
 | zero=>intro _; exact hs
 | succ k ih =>
   intro hk;have a:=ih (by omega)
   simp only[lateG,lateStep]
   split
   · have hst:=step_at h a hf hv.2 (i:=k) (by omega)
     exact stOk_set a (nextV_ok hst (outV_smp hst))
   · exact a
theorem play_all {p:PatchD} {s:List (List Int)} {fr v0:List Int} (h:formedB p=true) (hs:StOk p s) (hf:smps fr=true) (hv:valsOk p v0):valsOk p (playG p fr (v0,s) (ordL p.2.2.1)).1∧StOk p (playG p fr (v0,s) (ordL p.2.2.1)).2:=by
 have:=play_ok h hs hf hv _ (Nat.le_refl _)
 rwa [List.take_length] at this
theorem nextV_6 {kd:Int} {i s:List Int} {o o':Int} (h:kd=6):nextV kd i s o=nextV kd i s o':=by subst h; rfl
theorem startV_len' {n:NodeD} {tb:Int} (h:nodeB n tb=true):(startV n).length≤16:=by
 obtain ⟨kd,a,b,fr⟩:=n;obtain ⟨q1,_,q3,_,_,_,q7,_⟩:=nodeB_ab h
 rw [startV_len];simp only
 split
 · rename_i e; have:=q3 e; omega
 split
 · rename_i e; have:=q7 e; omega
 split<;>omega
theorem ordR_t {ns:List NodeD} (h:(ordL ns).length=ns.length):ordR ns=(ordL ns,true):=by unfold ordR; rw [decide_eq_true h]
open Go.RowKit
theorem w32_add3 (x y:Int):wrap32 (x+IntKind.i64.wrap y)=wrap32 (x+y):=by
 rw [← w32_add2 x y,w32_wrap]
theorem fitsL_st {p:PatchD} {s:List (List Int)} (h:formedB p=true) (hs:StOk p s):fitsL s:=by
 have hn:=(formedB_parts h).1
 refine ⟨by have:=hs.1; omega,fun l hl=>?_⟩
 obtain ⟨j,hj,rfl⟩:=List.mem_iff_getElem.1 hl
 have hj':j < p.2.2.1.length:=by rw [← hs.1]; exact hj
 have h1:=(hs.2 j hj').1
 have h2:=startV_len' (nodeIn_parts (node_at h hj')).1
 have e:s.getD j []=s[j]:=by simp [List.getD,hj]
 rw [e] at h1; omega
end Go.Proofs.YtgmabhkmiokiaaaGreat
