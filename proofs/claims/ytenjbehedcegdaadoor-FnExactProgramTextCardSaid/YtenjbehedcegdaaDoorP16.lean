/-
  Texts of this claim, joined (part 16). No condition beyond those of the theorems.
-/
import Derived.Test.YtenjbehedcegdaaDoorP13
import Derived.Test.YtenjbehedcegdaaDoorP15
import Derived.Lib.Join
namespace Go.Proofs.YtenjbehedcegdaaDoor
open Go.RowKit
set_option linter.unusedSimpArgs false
set_option linter.unusedVariables false
def namesT:List (List UInt8):=[[],[105,110,112,117,116],[99,111,110,115,116],[97,100,100],[115,117,98],[103,97,105,110],[100,101,108,97,121],[115,117,109],[100,105,102,102],[109,117,108],[115,104,105,102,116],[99,108,105,112],[112,104,97,115,101],[116,97,98,108,101],[110,111,105,115,101],[115,101,108,101,99,116],[104,111,108,100],[99,111,109,98]]
def nameK (k:Int):List UInt8:=namesT.getD k.toNat []
theorem kind_nat {k:Int} (h:inR k 1 17=true):∃m:Nat,m < 17∧k=m+1:=by
 obtain⟨h1,h2⟩:=inR_iff.1 h
 exact⟨(k - 1).toNat,by omega,by omega⟩
theorem nameK_L {k:Int} (h:inR k 1 17=true):(kindsL.getD (k - 1).toNat (ByteArray.empty,0,0,0,false,false)).1=bs (nameK k):=by
 obtain⟨m,hm,rfl⟩:=kind_nat h
 have key:∀m:_root_.Fin 17,(kindsL.getD m.1 (ByteArray.empty,0,0,0,false,false)).1.data.toList=namesT.getD (m.1+1) []:=by decide
 have h2:=key ⟨m,hm⟩
 unfold nameK
 rw[show ((m:Int)+1 - 1).toNat=m by omega,show ((m:Int)+1).toNat=m+1 by omega]
 simp only at h2
 rw[←h2,bs_of]
theorem nameK_len (k:Int):(nameK k).length≤6:=by
 have key:∀x∈namesT,x.length≤6:=by decide
 unfold nameK
 by_cases h:k.toNat < namesT.length
 · exact key _ (getD_mem h)
 · rw[List.getD_eq_getElem?_getD,List.getElem?_eq_none (by omega)];exact Nat.zero_le _
theorem names_at (k:Int):(namesT.map bs).getD k.toNat (bs [])=bs (nameK k):=by
 unfold nameK
 simp only[List.getD_eq_getElem?_getD,List.getElem?_map]
 cases namesT[k.toNat]?<;>rfl
def aB (k:Int):Bool:=decide ((kT k).2.1≤(kT k).2.2.1)
theorem aB_has {k:Int} (h:inR k 1 17=true):hasAL.contains k=aB k:=by
 obtain⟨m,hm,rfl⟩:=kind_nat h
 have key:∀m:_root_.Fin 17,hasAL.contains ((m.1:Int)+1)=aB ((m.1:Int)+1):=by decide
 exact key ⟨m,hm⟩
theorem bB_17 {k:Int} (h:inR k 1 17=true):(kT k).2.2.2.2=decide (k=17):=by
 obtain⟨m,hm,rfl⟩:=kind_nat h
 have key:∀m:_root_.Fin 17,(kT ((m.1:Int)+1)).2.2.2.2=decide ((m.1:Int)+1=17):=by decide
 exact key ⟨m,hm⟩
theorem itoa_len20 {n:Int} (h1:-9223372036854775808≤n) (h2:n≤9223372036854775807):(Lib.itoa n).length≤21:=by
 by_cases h:n=0
 · subst h;rw[itoa_0];exact Nat.le_of_ble_eq_true rfl
 · by_cases h3:0 < n
   · rw[itoa_pos h3]
     have:=decD_len n.natAbs (by omega)
     omega
   · rw[itoa_neg' (by omega)]
     have:=decD_len n.natAbs (by omega)
     rw[List.length_cons]
     omega
theorem join_app {w:List (List UInt8)} (h:w≠[]) (x:List UInt8):Lib.join (w++[x]) [32]=Lib.join w [32]++32::x:=by
 cases w with
 | nil=>exact absurd rfl h
 | cons a r =>
   rw[List.cons_append,Lib.join_cons,Lib.join_cons]
   simp[Lib.joinTail]
def numsT (l:List Int):List UInt8:=Lib.join (l.map Lib.itoa) [32]
theorem numsT_nil:numsT []=[]:=rfl
theorem numsT_next {l:List Int} {k:Nat} (h:k < l.length) (h0:k≠0):numsT (l.take (k+1))=numsT (l.take k)++([32]++Lib.itoa (l.getD k 0)):=by
 have e:l.take (k+1)=l.take k++[l.getD k 0]:=by rw[List.take_succ_eq_append_getElem h];simp[List.getD,h]
 have h5:((l.take k).map Lib.itoa).length=k:=by rw[List.length_map,List.length_take];omega
 unfold numsT
 rw[e,List.map_append,List.map_cons,List.map_nil,join_app (by intro e2;rw[e2] at h5;exact h0 h5.symm)]
 simp
theorem numsT_one {l:List Int} (h:0 < l.length):numsT (l.take (0+1))=numsT (l.take 0)++Lib.itoa (l.getD 0 0):=by
 cases l with
 | nil=>simp at h
 | cons a r=>simp[numsT,Lib.join_one,Lib.join_nil]
def i64B (n:Int):Bool:=inR n (-9223372036854775808) 9223372036854775807
theorem numsT_len:∀{l:List Int},l.all i64B=true→(numsT l).length≤22 * l.length:=by
 intro l h
 unfold numsT
 cases l with
 | nil=>simp[Lib.join_nil]
 | cons a r =>
   rw[List.map_cons,Lib.join_cons]
   simp only[List.all_cons,Bool.and_eq_true] at h
   obtain⟨h1,h2⟩:=h
   obtain⟨g1,g2⟩:=inR_iff.1 h1
   have e1:=itoa_len20 g1 g2
   have:(Lib.joinTail [32] (r.map Lib.itoa)).length≤22 * r.length:=by
    clear h1 g1 g2 e1
    induction r with
    | nil=>simp[Lib.joinTail]
    | cons b r ih =>
      simp only[List.all_cons,Bool.and_eq_true] at h2
      obtain⟨g1,g2⟩:=inR_iff.1 h2.1
      have e2:=itoa_len20 g1 g2
      have e3:=ih h2.2
      have e4:Lib.joinTail [32] ((b::r).map Lib.itoa)=([32]++Lib.itoa b)++Lib.joinTail [32] (r.map Lib.itoa):=by simp[Lib.joinTail]
      rw[e4]
      simp only[List.length_append,List.length_cons,List.length_nil]
      omega
   simp only[List.length_append,List.length_cons]
   omega
def wordsN (n:NodeD) (c1 c2 c3:Bool):List (List UInt8) :=
 ([nameK n.1]++(match c1 with|true=>[Lib.itoa n.2.1]|false=>[])++(match c2 with|true=>[Lib.itoa n.2.2.1]|false=>[]))++(match c3 with|true=>[[111,102],numsT n.2.2.2]|false=>[])
def nodeZ (n:NodeD) (c1 c2 c3:Bool):List UInt8 :=
 nameK n.1++(match c1 with|true=>32::Lib.itoa n.2.1|false=>[])++(match c2 with|true=>32::Lib.itoa n.2.2.1|false=>[])++(match c3 with|true=>[32,111,102,32]++numsT n.2.2.2|false=>[])
def nodeT (n:NodeD):List UInt8:=nodeZ n (aB n.1) (decide (n.1=17)) (decide (0 < n.2.2.2.length))
theorem nodeT_eq {n:NodeD} {c1 c2 c3:Bool} (h1:aB n.1=c1) (h2:decide (n.1=17)=c2) (h3:decide (0 < n.2.2.2.length)=c3):nodeT n=nodeZ n c1 c2 c3:=by
 unfold nodeT
 rw[h1,h2,h3]
theorem words_C (n:NodeD) (c1 c2 c3:Bool):Lib.join (wordsN n c1 c2 c3) [32]=nodeZ n c1 c2 c3:=by
 unfold nodeZ wordsN
 cases c1<;>cases c2<;>cases c3<;>simp[Lib.join_cons,Lib.joinTail]
theorem nodeT_words {n:NodeD} {c1 c2 c3:Bool} (h1:aB n.1=c1) (h2:decide (n.1=17)=c2) (h3:decide (0 < n.2.2.2.length)=c3):Lib.join (wordsN n c1 c2 c3) [32]=nodeT n:=by
 rw[nodeT_eq h1 h2 h3,words_C]
def txOk (n:NodeD):Prop:=inR n.1 1 17=true∧i64B n.2.1=true∧i64B n.2.2.1=true∧n.2.2.2.length≤3∧n.2.2.2.all i64B=true
theorem nodeT_len {n:NodeD} (h:txOk n):(nodeT n).length≤130:=by
 obtain⟨_,h1,h2,h3,h4⟩:=h
 obtain⟨a1,a2⟩:=inR_iff.1 h1
 obtain⟨b1,b2⟩:=inR_iff.1 h2
 have e1:=itoa_len20 a1 a2
 have e2:=itoa_len20 b1 b2
 have e3:=numsT_len h4
 have e4:=nameK_len n.1
 unfold nodeT
 generalize aB n.1=c1
 generalize decide (n.1=17)=c2
 generalize decide (0 < n.2.2.2.length)=c3
 unfold nodeZ
 cases c1<;>cases c2<;>cases c3<;>simp only[List.length_append,List.length_cons,List.length_nil]<;>omega
def textX (x:InstrD):List UInt8:=match decide (x.1=18) with
 | true=>[115,116,111,114,101,32]++Lib.itoa (xN x)++[32,111,102,32]++Lib.itoa ((xF x).getD 0 0)
 | false=>[114]++Lib.itoa (xT x)++[32,61,32]++nodeT (nodeX x)
theorem textX_t {x:InstrD} (h:x.1=18):textX x=[115,116,111,114,101,32]++Lib.itoa (xN x)++[32,111,102,32]++Lib.itoa ((xF x).getD 0 0):=by unfold textX;rw[decide_eq_true h]
theorem textX_f {x:InstrD} (h:¬x.1=18):textX x=[114]++Lib.itoa (xT x)++[32,61,32]++nodeT (nodeX x):=by unfold textX;rw[decide_eq_false h]
def txX (x:InstrD):Prop:=i64B (xN x)=true∧(x.1=18→(xF x).length=1∧i64B ((xF x).getD 0 0)=true)∧(¬x.1=18→i64B (xT x)=true∧txOk (nodeX x))
theorem i64_of {n:Int} (h1:-9223372036854775808≤n) (h2:n≤9223372036854775807):i64B n=true:=inR_iff.2 ⟨h1,h2⟩
theorem i64_iff {n:Int} (h:i64B n=true):-9223372036854775808≤n∧n≤9223372036854775807:=inR_iff.1 h
theorem textX_len {x:InstrD} (h:txX x):(textX x).length≤160:=by
 obtain⟨h1,h2,h3⟩:=h
 obtain⟨a1,a2⟩:=i64_iff h1
 have e1:=itoa_len20 a1 a2
 by_cases c:x.1=18
 · obtain⟨b1,b2⟩:=i64_iff (h2 c).2
   have e2:=itoa_len20 b1 b2
   rw[textX_t c]
   simp only[List.length_append,List.length_cons,List.length_nil]
   omega
 · obtain⟨b1,b2⟩:=i64_iff (h3 c).1
   have e2:=itoa_len20 b1 b2
   have e3:=nodeT_len (h3 c).2
   rw[textX_f c]
   simp only[List.length_append,List.length_cons,List.length_nil]
   omega
def textsX (xs:List InstrD):List UInt8:=xs.flatMap fun x=>textX x++[10]
theorem textsX_next {xs:List InstrD} {k:Nat} (h:k < xs.length):textsX (xs.take (k+1))=textsX (xs.take k)++(textX (xs.getD k x0)++[10]):=by
 have e:xs.take (k+1)=xs.take k++[xs.getD k x0]:=by rw[List.take_succ_eq_append_getElem h];simp[List.getD,h]
 unfold textsX
 rw[e,List.flatMap_append]
 simp
theorem textsX_len:∀{xs:List InstrD},(∀x∈xs,txX x)→(textsX xs).length≤161 * xs.length:=by
 intro xs
 induction xs with
 | nil=>intro _;simp[textsX]
 | cons x l ih =>
   intro h
   have h1:=ih fun y hy=>h y (List.mem_cons_of_mem _ hy)
   have h2:=textX_len (h x List.mem_cons_self)
   have e:textsX (x::l)=textX x++[10]++textsX l:=by simp[textsX]
   rw[e]
   simp only[List.length_append,List.length_cons,List.length_nil]
   omega
theorem kT_in:∀k:Int,1≤k→k≤17→(kT k).1≤3∧-2147483648≤(kT k).2.1∧(kT k).2.2.1≤2147483647:=by
 intro k h1 h2
 have:∀n:Nat,n < 17→(kT ((n:Int)+1)).1≤3∧-2147483648≤(kT ((n:Int)+1)).2.1∧(kT ((n:Int)+1)).2.2.1≤2147483647:=by decide
 have h3:=this (k - 1).toNat (by omega)
 rwa [show ((k - 1).toNat:Int)+1=k by omega] at h3
theorem node_tx {n:NodeD} {tb:Int} (h:nodeB n tb=true):txOk n:=by
 unfold nodeB at h
 simp only[Bool.and_eq_true,decide_eq_true_eq] at h
 obtain⟨⟨⟨⟨⟨h1,h2⟩,h3⟩,h4⟩,h5⟩,_⟩:=h
 obtain⟨k1,k2⟩:=inR_iff.1 h1
 obtain⟨g1,g2,g3⟩:=kT_in n.1 k1 k2
 refine⟨h1,?_,?_,by omega,List.all_eq_true.2 fun f hf=>?_⟩
 · split at h2
   · obtain⟨a,b⟩:=inR_iff.1 h2;exact i64_of (by omega) (by omega)
   · have:=of_decide_eq_true h2;exact i64_of (by omega) (by omega)
 · split at h3
   · obtain⟨a,b⟩:=inR_iff.1 h3;exact i64_of (by omega) (by omega)
   · have:=of_decide_eq_true h3;exact i64_of (by omega) (by omega)
 · obtain⟨a,b⟩:=inR_iff.1 (List.all_eq_true.1 h4 f hf);exact i64_of (by omega) (by omega)
theorem ins_tx {r tb:Int} {x:InstrD} (h:insB r tb x=true) (hr:r≤1000):txX x:=by
 obtain⟨⟨p1,p2⟩,p3,p4,p5,p6,p7⟩:=ins_parts h
 refine⟨i64_of (by omega) (by omega),fun e=>⟨p4 e,?_⟩,fun e=>?_⟩
 · have h1:=p4 e
   have h2:(xF x).getD 0 0∈xF x:=getD_mem (by omega)
   have h3:=idxs_at p3 h2
   exact i64_of (by omega) (by omega)
 · have h5:=p5 e
   refine⟨i64_of (by omega) (by omega),?_⟩
   by_cases h6:x.1=6
   · unfold insB at h
     rw[decide_eq_false (show ¬x.1=18 by omega)] at h
     simp only[Bool.and_eq_true] at h
     obtain⟨_,h2,h3,h4⟩:=h
     rw[decide_eq_true h6] at h4
     simp only[Bool.and_eq_true,decide_eq_true_eq] at h4
     obtain⟨q1,q2,q3⟩:=h4
     obtain⟨a,b⟩:=inR_iff.1 q1
     refine⟨?_,i64_of ?_ ?_,i64_of ?_ ?_,?_,?_⟩
     · show inR x.1 1 17=true
       rw[h6];rfl
     · show _≤x.2.1;omega
     · show x.2.1≤_;omega
     · show _≤x.2.2.1;omega
     · show x.2.2.1≤_;omega
     · show (xF x).length≤3;omega
     · show (xF x).all i64B=true
       rw[List.eq_nil_of_length_eq_zero q3];rfl
   · exact node_tx (p7 e h6)
def joinS (x:List ByteArray) (s:ByteArray):List UInt8:=Lib.join (x.map fun s=>s.data.toList) s.data.toList
theorem joinS_bs (W:List (List UInt8)) (c:List UInt8):joinS (W.map bs) (bs c)=Lib.join W c:=by
 unfold joinS
 rw[List.map_map,bs_data]
 congr 1
 exact(List.map_congr_left fun x _=>bs_data x).trans (List.map_id' _)
theorem nums_at {xs:List Int} (ha:xs.all i64B=true) {k:Nat} (h:k < xs.length):(-9223372036854775808≤xs.getD k 0∧xs.getD k 0≤9223372036854775807)∧(Lib.itoa (xs.getD k 0)).length≤21:=by
 have h1:=i64_iff (List.all_eq_true.1 ha _ (getD_mem (d:=0) h))
 exact⟨h1,itoa_len20 h1.1 h1.2⟩
theorem numsT_take_len {xs:List Int} (hl:xs.length≤1000) (ha:xs.all i64B=true) (k:Nat):(numsT (xs.take k)).length≤22000:=by
 have h1:=numsT_len (l:=xs.take k) (List.all_eq_true.2 fun x hx=>List.all_eq_true.1 ha x (List.mem_of_mem_take hx))
 have h2:(xs.take k).length≤xs.length:=by rw[List.length_take];omega
 omega
theorem words_next {xs:List Int} {k:Nat} (h:k < xs.length):((xs.take k).map Lib.itoa).map bs++[bs (Lib.itoa (xs.getD k 0))]=((xs.take (k+1)).map Lib.itoa).map bs:=by
 have e:xs.take (k+1)=xs.take k++[xs.getD k 0]:=by rw[List.take_succ_eq_append_getElem h];simp[List.getD,h]
 rw[e,List.map_append,List.map_append]
 rfl
theorem joinS_nums {xs:List Int} (hl:xs.length≤1000) (ha:xs.all i64B=true):((xs.map Lib.itoa).map bs).length≤1000∧(joinS ((xs.map Lib.itoa).map bs) (bs [32])).length≤1000000:=by
 rw[joinS_bs]
 have h:=numsT_len ha
 unfold numsT at h
 refine⟨by simpa using hl,by omega⟩
theorem joinW {n:NodeD} {c1 c2 c3:Bool} (h1:aB n.1=c1) (h2:decide (n.1=17)=c2) (h3:decide (0 < n.2.2.2.length)=c3):joinS ((wordsN n c1 c2 c3).map bs) (bs [32])=nodeT n:=by
 rw[joinS_bs,nodeT_words h1 h2 h3]
theorem words_ok {n:NodeD} {c1 c2 c3:Bool} (h1:aB n.1=c1) (h2:decide (n.1=17)=c2) (h3:decide (0 < n.2.2.2.length)=c3) (h:txOk n):((wordsN n c1 c2 c3).map bs).length≤1000∧(joinS ((wordsN n c1 c2 c3).map bs) (bs [32])).length≤1000000:=by
 rw[joinS_bs,nodeT_words h1 h2 h3]
 have:=nodeT_len h
 refine⟨?_,by omega⟩
 cases c1<;>cases c2<;>cases c3<;>simp[wordsN]
def textG (g:ProgD):List UInt8:=match progB g with
 | true=>textsX g.2.2.2.1
 | false=>[]
theorem textG_ok {g:ProgD} (h:progB g=true):textG g=textsX g.2.2.2.1:=by unfold textG;rw[h]
theorem textG_no {g:ProgD} (h:progB g=false):textG g=[]:=by unfold textG;rw[h]
theorem prog_tx {g:ProgD} (h:progB g=true):∀x∈g.2.2.2.1,txX x:=by
 intro x hx
 have hG:=progB_ok h
 obtain⟨k,hk,rfl⟩:=List.mem_iff_getElem.1 hx
 have e:g.2.2.2.1.getD k x0=g.2.2.2.1[k]:=by simp[List.getD,hk]
 have h1:=(hG.ins k hk).1
 rw[e] at h1
 exact ins_tx h1 (by have:=hG.r24;omega)
theorem prog_text_len {g:ProgD} (h:progB g=true) (k:Nat):(textsX (g.2.2.2.1.take k)).length≤7728:=by
 have hG:=progB_ok h
 have h1:=textsX_len (xs:=g.2.2.2.1.take k) fun x hx=>prog_tx h x (List.mem_of_mem_take hx)
 have h2:=hG.cl
 have h3:(g.2.2.2.1.take k).length≤48:=by rw[List.length_take];omega
 omega
end Go.Proofs.YtenjbehedcegdaaDoor
