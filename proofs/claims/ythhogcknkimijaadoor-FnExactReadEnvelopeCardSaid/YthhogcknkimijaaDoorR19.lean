/-
  Texts of this claim, joined (part 19). No condition beyond those of the theorems.
-/
import Derived.Test.YthhogcknkimijaaDoorR16
import Derived.Test.YthhogcknkimijaaDoorR18
namespace Go.Proofs.YthhogcknkimijaaDoor
open Go.RowKit
set_option linter.unusedSimpArgs false
set_option linter.unusedVariables false
theorem bs_getD (W:List (List UInt8)) (k:Nat):(W.map bs).getD k (bs [])=bs (W.getD k []):=by
 simp only[List.getD,List.getElem?_map]
 cases W[k]?<;>rfl
attribute [go_sem] bs_data bs_getD
theorem byte_eq {b:UInt8} {c:Int} (h1:0≤c) (h2:c < 256):((b.toNat:Int)=c)↔b=UInt8.ofNat c.toNat:=by
 constructor
 · intro h;subst h;simp
 · intro h;subst h;simp;omega
theorem take_getD {α:Type} {l:List α} {k:Nat} {d:α} (h:k < l.length):l.take (k+1)=l.take k++[l.getD k d]:=by
 rw[List.take_succ_eq_append_getElem h];simp[List.getD,h]
theorem u8_id {x:Int} (h1:0≤x) (h2:x < 256):IntKind.u8.wrap x=x:=by
 unfold IntKind.wrap
 simp only[IntKind.bits,IntKind.signed]
 first|omega|(simp;omega)
theorem lenP {l:List UInt8} (h:¬l=[]):(0:Int)≤0∧(0:Int) < l.length:=⟨Int.le_refl _,by have:=List.length_pos_iff.2 h;omega⟩
theorem lenQ {l:List UInt8} (h:¬l=[]):(0:Int)≤1∧(1:Int)≤l.length∧(l.length:Int)≤l.length:=⟨by omega,by have:=List.length_pos_iff.2 h;omega,Int.le_refl _⟩
/-! Cutting a text. -/
def SplI (c:UInt8) (l:List UInt8) (p:Nat × Nat × List (List UInt8)):Prop :=
 (p.2.1≤p.1∧p.1≤l.length∧p.2.2.length≤p.1)∧splB c l=p.2.2++splB c (l.drop p.2.1)∧c ∉ (l.drop p.2.1).take (p.1 - p.2.1)
theorem SplI.start (c:UInt8) (l:List UInt8):SplI c l (0,0,[]):=⟨⟨Nat.le_refl _,Nat.zero_le _,Nat.le_refl _⟩,by simp,by simp⟩
theorem SplI.hit {c:UInt8} {l:List UInt8} {i f:Nat} {out:List (List UInt8)} (h:SplI c l (i,f,out)) (hi:i < l.length) (hc:l.getD i 0=c):SplI c l (i+1,i+1,out++[(l.drop f).take (i - f)]):=by
 obtain⟨⟨h1,h2,h3⟩,h4,h5⟩:=h
 simp only at h1 h2 h3 h4 h5
 have hg:l.getD i 0=l[i]:=by simp[List.getD,hi]
 have e:l.drop f=(l.drop f).take (i - f)++c::l.drop (i+1):=by
  have e1:(l.drop f).drop (i - f)=c::l.drop (i+1):=by
   rw[List.drop_drop,show f+(i - f)=i by omega,List.drop_eq_getElem_cons hi,←hg,hc]
  rw[←e1,List.take_append_drop]
 refine⟨⟨Nat.le_refl _,by simp only;omega,by simp only[List.length_append,List.length_singleton];omega⟩,?_,by simp⟩
 simp only
 rw[h4]
 have e2:splB c (l.drop f)=(l.drop f).take (i - f)::splB c (l.drop (i+1)):=by
  generalize (l.drop f).take (i - f)=q at e h5
  rw[e,splB_app h5]
 rw[e2]
 simp
theorem SplI.miss {c:UInt8} {l:List UInt8} {i f:Nat} {out:List (List UInt8)} (h:SplI c l (i,f,out)) (hi:i < l.length) (hc:¬l.getD i 0=c):SplI c l (i+1,f,out):=by
 obtain⟨⟨h1,h2,h3⟩,h4,h5⟩:=h
 simp only at h1 h2 h3 h4 h5
 refine⟨⟨by simp only;omega,by simp only;omega,by simp only;omega⟩,h4,?_⟩
 simp only
 rw[show i+1 - f=i - f+1 by omega,take_getD (d:=0) (by rw[List.length_drop];omega)]
 intro hm
 rcases List.mem_append.1 hm with hm|hm
 · exact h5 hm
 · have:(l.drop f).getD (i - f) 0=l.getD i 0:=by simp only[List.getD,List.getElem?_drop,show f+(i - f)=i by omega]
   rw[this] at hm
   exact hc (List.mem_singleton.1 hm).symm
theorem SplI.fin {c:UInt8} {l:List UInt8} {i f:Nat} {out:List (List UInt8)} (h:SplI c l (i,f,out)) (hi:l.length≤i):out++[(l.drop f).take (l.length - f)]=splB c l:=by
 obtain⟨⟨h1,h2,h3⟩,h4,h5⟩:=h
 simp only at h1 h2 h3 h4 h5
 have e:i=l.length:=by omega
 subst e
 have e2:(l.drop f).take (l.length - f)=l.drop f:=List.take_of_length_le (by rw[List.length_drop];omega)
 rw[e2] at h5 ⊢
 rw[h4,splB_none h5]
theorem splB_len (c:UInt8) (l:List UInt8):(splB c l).length≤l.length+1∧1≤(splB c l).length:=by
 induction l with
 | nil=>simp[splB]
 | cons b l ih =>
   unfold splB
   split
   · simp only[List.length_cons];omega
   · simp only[List.length_cons,List.length_drop];omega
theorem lib_splitB (s:List UInt8) (c:UInt8):Lib.splitB (bs [c]) 0 (Lib.countB (bs s) (bs [c])) (bs s)=(splB c s).map bs:=by
 have h:=Lib.splitB_data (bs [c]) 0 (Lib.countB (bs s) (bs [c])) (bs s)
 have e:Lib.splitK (bs [c]).data.toList 0 (Lib.countB (bs s) (bs [c])) (bs s).data.toList=splB c s:=by
  rw[←lib_split,bs_data,bs_data]
  unfold Lib.split
  congr 1
 rw[e] at h
 rw[←h,List.map_map]
 have:((bs∘fun x:ByteArray=>x.data.toList))=id:=funext fun x=>bs_of x
 rw[this,List.map_id]
/-! Numerals by the reference. -/
def tlI (l:List UInt8):List UInt8:=match decide (l.headD 0=45) with|true=>l.drop 1|false=>l
theorem tlI_t {l:List UInt8} (h:l.headD 0=45):tlI l=l.drop 1:=by unfold tlI;rw[decide_eq_true h]
theorem tlI_f {l:List UInt8} (h:¬l.headD 0=45):tlI l=l:=by unfold tlI;rw[decide_eq_false h]
theorem head_at (l:List UInt8):l.headD 0=l.getD 0 0:=by cases l<;>rfl
theorem intR_no1 {l:List UInt8} (h:¬(1≤(tlI l).length∧(tlI l).length≤10)):intR l=(0,false):=by
 unfold intR
 by_cases hh:l.headD 0=45
 · rw[tlI_t hh] at h
   rw[decide_eq_true hh]
   simp only
   have:(decide (1≤(l.drop 1).length) && (decide ((l.drop 1).length≤10) && (l.drop 1).all dgB))=false:=by
    by_cases a:1≤(l.drop 1).length
    · rw[decide_eq_false (p:=(l.drop 1).length≤10) (fun b=>h ⟨a,b⟩)];simp
    · rw[decide_eq_false a];rfl
   rw[this]
 · rw[tlI_f hh] at h
   rw[decide_eq_false hh]
   simp only
   have:(decide (1≤l.length) && (decide (l.length≤10) && l.all dgB))=false:=by
    by_cases a:1≤l.length
    · rw[decide_eq_false (p:=l.length≤10) (fun b=>h ⟨a,b⟩)];simp
    · rw[decide_eq_false a];rfl
   rw[this]
theorem intR_no2 {l:List UInt8} {k:Nat} (hk:k < (tlI l).length) (h:dgB ((tlI l).getD k 0)=false):intR l=(0,false):=by
 have hf:(tlI l).all dgB=false:=by
  rw[List.all_eq_false]
  exact⟨(tlI l).getD k 0,by rw[show (tlI l).getD k 0=(tlI l)[k] by simp[List.getD,hk]];exact List.getElem_mem hk,by rw[h];simp⟩
 unfold intR
 by_cases hh:l.headD 0=45
 · rw[tlI_t hh] at hf
   rw[decide_eq_true hh]
   simp only
   rw[hf];simp
 · rw[tlI_f hh] at hf
   rw[decide_eq_false hh]
   simp only
   rw[hf];simp
theorem intR_ok {l:List UInt8} (h1:1≤(tlI l).length) (h2:(tlI l).length≤10) (h3:(tlI l).all dgB=true) :
 intR l=if (tlI l).length < l.length then (-(valD (tlI l):Int),true) else ((valD (tlI l):Int),true):=by
 unfold intR
 by_cases hh:l.headD 0=45
 · have e:=tlI_t hh
   rw[e] at h1 h2 h3 ⊢
   rw[decide_eq_true hh]
   simp only
   rw[decide_eq_true h1,decide_eq_true h2,h3,if_pos (by rw[List.length_drop] at h1 ⊢;omega)]
   rfl
 · have e:=tlI_f hh
   rw[e] at h1 h2 h3 ⊢
   rw[decide_eq_false hh]
   simp only
   rw[decide_eq_true h1,decide_eq_true h2,h3,if_neg (by omega)]
   rfl
theorem valD_lt {l:List UInt8} (h:l.all dgB=true):valD l < 10 ^ l.length:=by
 have key:∀(l:List UInt8) (a:Nat),l.all dgB=true→valA a l < (a+1) * 10 ^ l.length:=by
  intro l
  induction l with
  | nil=>intro a _;show a < (a+1) * 10 ^ 0;omega
  | cons b l ih =>
    intro a hl
    simp only[List.all_cons,Bool.and_eq_true,dgB,decide_eq_true_eq] at hl
    have h1:=ih (10 * a+(b.toNat - 48)) hl.2
    have h2:10 * a+(b.toNat - 48)+1≤(a+1) * 10:=by omega
    have h3:=Nat.mul_le_mul_right (10 ^ l.length) h2
    show valA (10 * a+(b.toNat - 48)) l < (a+1) * 10 ^ (l.length+1)
    rw[Nat.pow_succ,Nat.mul_comm (10 ^ l.length) 10,←Nat.mul_assoc]
    omega
 have:=key l 0 h
 simpa [valD,valA] using this
theorem valD_10 {l:List UInt8} (h:l.all dgB=true) (hl:l.length≤10):valD l < 10000000000 :=
 Nat.lt_of_lt_of_le (valD_lt h) (by
  have:=Nat.pow_le_pow_right (n:=10) (by omega) hl
  omega)
theorem all_take {α:Type} {p:α→Bool} {l:List α} {k:Nat} {d:α} (hk:k < l.length) (h:(l.take k).all p=true) (hp:p (l.getD k d)=true):(l.take (k+1)).all p=true:=by
 rw[take_getD (d:=d) hk,List.all_append,h,List.all_cons,hp];rfl
theorem valD_take {l:List UInt8} {k:Nat} (hk:k < l.length):valD (l.take (k+1))=10 * valD (l.take k)+((l.getD k 0).toNat - 48):=by
 rw[take_getD (d:=0) hk,valD_snoc]
/-! A segment by the reference. -/
theorem cutA_none {c:UInt8} {l:List UInt8} (h:c ∉ l):cutA c l=none:=by
 induction l with
 | nil=>rfl
 | cons b l ih =>
   unfold cutA
   rw[decide_eq_false (fun e=>h (by rw[e];exact List.mem_cons_self)),ih (fun hm=>h (List.mem_cons_of_mem _ hm))]
   rfl
theorem segR_hit {l:List UInt8} {k:Nat} (h1:1≤k) (hk:k < l.length) (hc:l.getD k 0=58) (hn:(58:UInt8) ∉ (l.drop 1).take (k - 1)) :
 segR l=(((intR (l.drop (k+1))).1,(intR ((l.drop 1).take (k - 1))).1),(intR ((l.drop 1).take (k - 1))).2 && (intR (l.drop (k+1))).2):=by
 have e:l.drop 1=(l.drop 1).take (k - 1)++58::l.drop (k+1):=by
  have e1:(l.drop 1).drop (k - 1)=58::l.drop (k+1):=by
   rw[List.drop_drop,show 1+(k - 1)=k by omega,List.drop_eq_getElem_cons hk,←hc]
   simp[List.getD,hk]
  rw[←e1,List.take_append_drop]
 have e2:cutA 58 (l.drop 1)=some ((l.drop 1).take (k - 1),l.drop (k+1)):=by
  generalize (l.drop 1).take (k - 1)=q at e hn
  rw[e,cutA_app hn]
 unfold segR
 rw[e2]
theorem segR_none {l:List UInt8} {k:Nat} (hk:l.length≤k) (hn:(58:UInt8) ∉ (l.drop 1).take (k - 1)):segR l=((0,0),false):=by
 have e:(l.drop 1).take (k - 1)=l.drop 1:=List.take_of_length_le (by rw[List.length_drop];omega)
 rw[e] at hn
 unfold segR
 rw[cutA_none hn]
theorem seg_next {l:List UInt8} {k:Nat} (h1:1≤k) (hk:k < l.length) (hc:¬l.getD k 0=58) (hn:(58:UInt8) ∉ (l.drop 1).take (k - 1)):(58:UInt8) ∉ (l.drop 1).take (k+1 - 1):=by
 rw[show k+1 - 1=k - 1+1 by omega,take_getD (d:=0) (by rw[List.length_drop];omega)]
 intro hm
 rcases List.mem_append.1 hm with hm|hm
 · exact hn hm
 · have:(l.drop 1).getD (k - 1) 0=l.getD k 0:=by simp only[List.getD,List.getElem?_drop,show 1+(k - 1)=k by omega]
   rw[this] at hm
   exact hc (List.mem_singleton.1 hm).symm
/-! Both ways, at the end of the walks. -/
theorem mid_len (W:List (List UInt8)):(midL W).length=W.length - 2:=by unfold midL;rw[List.length_dropLast,List.length_drop];omega
theorem mid_at {W:List (List UInt8)} {k:Nat} (h:k+2 < W.length):W.getD (k+1) []=(midL W).getD k []:=by
 unfold midL
 simp only[List.getD,List.getElem?_dropLast,List.length_drop,List.getElem?_drop]
 rw[if_pos (by omega),show 1+k=k+1 by omega]
theorem all_no {α:Type} {p:α→Bool} {l:List α} {k:Nat} {d:α} (hk:k < l.length) (h:p (l.getD k d)=false):l.all p=false:=by
 rw[List.all_eq_false]
 exact⟨l.getD k d,by rw[show l.getD k d=l[k] by simp[List.getD,hk]];exact List.getElem_mem hk,by rw[h];simp⟩
abbrev okA (W:List (List UInt8)):Bool:=decide (2≤W.length) && (decide (W.length≤10) && decide (2≤(lastW W).length))
def mkA (W:List (List UInt8)):EnvT:=((intR (W.getD 0 [])).1,(midL W).map (fun w=>(segR w).1),(intR ((lastW W).drop 1)).1)
def mkP' (W:List (List UInt8)):EnvT:=((rdD (W.getD 0 [])).1,(midL W).map (fun w=>(sgP w).1),(rdD (Lib.trimPrefix (lastW W) [46])).1)
theorem rdA_0 {l:List UInt8} (h:okA (splB 32 l)=false):rdA envB l=(e0,false):=by unfold rdA;unfold okA at h;rw[h]
theorem rdA_1 {l:List UInt8} {k:Nat} (h:okA (splB 32 l)=true) (hk:k < (midL (splB 32 l)).length) (hs:(segR ((midL (splB 32 l)).getD k [])).2=false):rdA envB l=(e0,false):=by
 unfold rdA;unfold okA at h;rw[h];simp only;rw[all_no (p:=fun w=>(segR w).2) (d:=[]) hk hs]
theorem rdA_2 {l:List UInt8} (h:okA (splB 32 l)=true) (ha:(midL (splB 32 l)).all (fun w=>(segR w).2)=true) :
 rdA envB l=endE envB l (mkA (splB 32 l)) ((intR ((splB 32 l).getD 0 [])).2 && (intR ((lastW (splB 32 l)).drop 1)).2):=by
 unfold rdA;unfold okA at h;rw[h];simp only;rw[ha];rfl
theorem spl_ne {l:List UInt8} (h:2≤(splB 32 l).length):l≠[]:=by rintro rfl;simp[splB] at h
theorem endE_0 {l:List UInt8} {e:EnvT} {b:Bool} (hl:l≠[]) (h:¬(b=true∧envT e=l)):endE envB l e b=(e0,false):=by
 unfold endE
 cases b with
 | false=>rfl
 | true =>
   cases hb:envB e with
   | false=>rfl
   | true =>
     rw[envT_ok hb] at h
     have:¬tE e=l:=fun e'=>h ⟨rfl,e'⟩
     rw[decide_eq_false this];rfl
theorem endE_1 {l:List UInt8} {e:EnvT} {b:Bool} (hl:l≠[]) (hb:b=true) (h:envT e=l):endE envB l e b=(e,true):=by
 subst hb
 cases he:envB e with
 | false=>rw[envT_no he] at h;exact absurd h.symm hl
 | true=>rw[envT_ok he] at h;exact endE_t envB he h
theorem rdP_0 {l:List UInt8} (h:¬2≤(wrdL l).length):rdP envB l=(e0,false):=by unfold rdP;rw[decide_eq_false h]
theorem rdP_1 {l:List UInt8} {k:Nat} (h:2≤(wrdL l).length) (hk:k < (midL (wrdL l)).length) (hs:(sgP ((midL (wrdL l)).getD k [])).2=false):rdP envB l=(e0,false):=by
 unfold rdP;rw[decide_eq_true h];simp only;rw[all_no (p:=fun w=>(sgP w).2) (d:=[]) hk hs]
theorem rdP_2 {l:List UInt8} (h:2≤(wrdL l).length) (ha:(midL (wrdL l)).all (fun w=>(sgP w).2)=true) :
 rdP envB l=endE envB l (mkP' (wrdL l)) ((rdD ((wrdL l).getD 0 [])).2 && (rdD (Lib.trimPrefix (lastW (wrdL l)) [46])).2):=by
 unfold rdP;rw[decide_eq_true h];simp only;rw[ha];rfl
theorem wrd_len (l:List UInt8):(wrdL l).length≤l.length+1:=Nat.le_trans (List.length_filter_le _ _) (splB_len 32 l).1
theorem wrd_ne {l:List UInt8} (h:2≤(wrdL l).length):l≠[]:=by rintro rfl;simp[wrdL,splB] at h
theorem rd_both (l:List UInt8):rdA envB l=rdP envB l:=rd_eq envB (fun e h=>by
 obtain⟨h1,h2,h3,h4⟩:=envB_parts h
 obtain⟨a1,a2⟩:=inR_iff.1 h2
 obtain⟨b1,b2⟩:=inR_iff.1 h3
 refine⟨⟨a1,a2⟩,fun x hx=>?_,⟨b1,by omega⟩,h4⟩
 obtain⟨⟨c1,c2⟩,c3,c4⟩:=seg_bd h1 hx
 exact⟨c1,c2,c3,c4⟩) l
theorem word_len {l:List UInt8} (h:l.length≤1048576):∀w∈splB 32 l,w.length≤1048576:=by
 have key:∀l:List UInt8,∀w∈splB 32 l,w.length≤l.length:=by
  intro l
  induction l with
  | nil=>intro w hw;simp[splB] at hw;subst hw;simp
  | cons b l ih =>
    intro w hw
    unfold splB at hw
    split at hw
    · rcases List.mem_cons.1 hw with rfl|hw
      · simp
      · have:=ih w hw;simp only[List.length_cons];omega
    · rcases List.mem_cons.1 hw with rfl|hw
      · have hne:=splB_ne 32 l
        cases e:splB 32 l with
        | nil=>exact absurd e hne
        | cons a r =>
          have:=ih a (by rw[e];exact List.mem_cons_self)
          simp only[List.headD_cons,List.length_cons];omega
      · have:=ih w (List.mem_of_mem_drop hw);simp only[List.length_cons];omega
 intro w hw
 exact Nat.le_trans (key l w hw) h
theorem word_at {l:List UInt8} (h:l.length≤1048576) (k:Nat):((splB 32 l).getD k []).length≤1048576:=by
 by_cases hk:k < (splB 32 l).length
 · rw[show (splB 32 l).getD k []=(splB 32 l)[k] by simp[List.getD,hk]]
   exact word_len h _ (List.getElem_mem hk)
 · have:(splB 32 l).getD k []=[]:=by simp[List.getD,List.getElem?_eq_none (show (splB 32 l).length≤k by omega)]
   rw[this];simp
theorem okA_f {W:List (List UInt8)} (h:¬(2≤W.length∧W.length≤10∧2≤(lastW W).length)):okA W=false:=by
 unfold okA
 by_cases a:2≤W.length
 · by_cases b:W.length≤10
   · rw[decide_eq_false (p:=2≤(lastW W).length) (fun c=>h ⟨a,b,c⟩)];simp
   · rw[decide_eq_false (p:=W.length≤10) b];simp
 · rw[decide_eq_false a];rfl
theorem okA_t {W:List (List UInt8)} (a:2≤W.length) (b:W.length≤10) (c:2≤(lastW W).length):okA W=true:=by
 unfold okA;rw[decide_eq_true a,decide_eq_true b,decide_eq_true c];rfl
theorem okA_i {W:List (List UInt8)} (h:okA W=true):2≤W.length∧W.length≤10∧2≤(lastW W).length:=by
 unfold okA at h
 simp only[Bool.and_eq_true,decide_eq_true_eq] at h
 exact h
theorem rdA_bd (l:List UInt8):(rdA envB l).1.2.1.length≤1000000:=by
 rcases rdA_x envB l with⟨f,h1,h2,_⟩|h
 · rw[h1]
   have:=(envB_parts h2).2.2.2
   simp only;omega
 · rw[h];simp[e0]
end Go.Proofs.YthhogcknkimijaaDoor
