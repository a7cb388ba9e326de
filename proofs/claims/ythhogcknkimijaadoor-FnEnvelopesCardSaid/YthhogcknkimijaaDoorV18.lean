/-
  Texts of this claim, joined (part 18). No condition beyond those of the theorems.
-/
import Derived.Test.YthhogcknkimijaaDoorV15
import Derived.Test.YthhogcknkimijaaDoorV17
namespace Go.Proofs.YthhogcknkimijaaDoor
open Go.RowKit
set_option linter.unusedSimpArgs false
set_option linter.unusedVariables false
theorem bs_getD (W:List (List UInt8)) (k:Nat):(W.map bs).getD k (bs [])=bs (W.getD k []):=by
 simp only[List.getD,List.getElem?_map]
 cases W[k]?<;>rfl
attribute [go_sem] bs_data bs_getD
theorem take_getD {α:Type} {l:List α} {k:Nat} {d:α} (h:k < l.length):l.take (k+1)=l.take k++[l.getD k d]:=by
 rw[List.take_succ_eq_append_getElem h];simp[List.getD,h]
/-! Cutting a text. -/
def SplI (c:UInt8) (l:List UInt8) (p:Nat × Nat × List (List UInt8)):Prop :=
 (p.2.1≤p.1∧p.1≤l.length∧p.2.2.length≤p.1)∧splB c l=p.2.2++splB c (l.drop p.2.1)∧c ∉ (l.drop p.2.1).take (p.1 - p.2.1)
theorem SplI.start (c:UInt8) (l:List UInt8):SplI c l (0,0,[]):=⟨⟨Nat.le_refl _,Nat.zero_le _,Nat.le_refl _⟩,by simp,by simp⟩
theorem SplI.hit {c:UInt8} {l:List UInt8} {i f:Nat} {out:List (List UInt8)} (h:SplI c l (i,f,out)) (hi:i < l.length) (hc:l.getD i 0=c):SplI c l (i+1,i+1,out++[(l.drop f).take (i - f)]):=by
 obtain⟨⟨h1,h2,h3⟩,h4,h5⟩:=h
 simp only at h1 h2 h3 h4 h5
 have hg:l.getD i 0=l[i]:=by simp[List.getD,hi]
 have e:l.drop f=(l.drop f).take (i - f)++c::l.drop (i+1):=by
  have e1:(l.drop f).drop (i - f)=c::l.drop (i+1):=by
   rw[List.drop_drop,show f+(i - f)=i by omega,List.drop_eq_getElem_cons hi,←hg,hc]
  rw[←e1,List.take_append_drop]
 refine⟨⟨Nat.le_refl _,by simp only;omega,by simp only[List.length_append,List.length_singleton];omega⟩,?_,by simp⟩
 simp only
 rw[h4]
 have e2:splB c (l.drop f)=(l.drop f).take (i - f)::splB c (l.drop (i+1)):=by
  generalize (l.drop f).take (i - f)=q at e h5
  rw[e,splB_app h5]
 rw[e2]
 simp
theorem SplI.fin {c:UInt8} {l:List UInt8} {i f:Nat} {out:List (List UInt8)} (h:SplI c l (i,f,out)) (hi:l.length≤i):out++[(l.drop f).take (l.length - f)]=splB c l:=by
 obtain⟨⟨h1,h2,h3⟩,h4,h5⟩:=h
 simp only at h1 h2 h3 h4 h5
 have e:i=l.length:=by omega
 subst e
 have e2:(l.drop f).take (l.length - f)=l.drop f:=List.take_of_length_le (by rw[List.length_drop];omega)
 rw[e2] at h5 ⊢
 rw[h4,splB_none h5]
theorem splB_len (c:UInt8) (l:List UInt8):(splB c l).length≤l.length+1∧1≤(splB c l).length:=by
 induction l with
 | nil=>simp[splB]
 | cons b l ih =>
   unfold splB
   split
   · simp only[List.length_cons];omega
   · simp only[List.length_cons,List.length_drop];omega
theorem lib_splitB (s:List UInt8) (c:UInt8):Lib.splitB (bs [c]) 0 (Lib.countB (bs s) (bs [c])) (bs s)=(splB c s).map bs:=by
 have h:=Lib.splitB_data (bs [c]) 0 (Lib.countB (bs s) (bs [c])) (bs s)
 have e:Lib.splitK (bs [c]).data.toList 0 (Lib.countB (bs s) (bs [c])) (bs s).data.toList=splB c s:=by
  rw[←lib_split,bs_data,bs_data]
  unfold Lib.split
  congr 1
 rw[e] at h
 rw[←h,List.map_map]
 have:((bs∘fun x:ByteArray=>x.data.toList))=id:=funext fun x=>bs_of x
 rw[this,List.map_id]
/-! Numerals by the reference. -/
theorem all_take {α:Type} {p:α→Bool} {l:List α} {k:Nat} {d:α} (hk:k < l.length) (h:(l.take k).all p=true) (hp:p (l.getD k d)=true):(l.take (k+1)).all p=true:=by
 rw[take_getD (d:=d) hk,List.all_append,h,List.all_cons,hp];rfl
/-! A segment by the reference. -/
/-! Both ways, at the end of the walks. -/
theorem mid_len (W:List (List UInt8)):(midL W).length=W.length - 2:=by unfold midL;rw[List.length_dropLast,List.length_drop];omega
theorem mid_at {W:List (List UInt8)} {k:Nat} (h:k+2 < W.length):W.getD (k+1) []=(midL W).getD k []:=by
 unfold midL
 simp only[List.getD,List.getElem?_dropLast,List.length_drop,List.getElem?_drop]
 rw[if_pos (by omega),show 1+k=k+1 by omega]
theorem all_no {α:Type} {p:α→Bool} {l:List α} {k:Nat} {d:α} (hk:k < l.length) (h:p (l.getD k d)=false):l.all p=false:=by
 rw[List.all_eq_false]
 exact⟨l.getD k d,by rw[show l.getD k d=l[k] by simp[List.getD,hk]];exact List.getElem_mem hk,by rw[h];simp⟩
def mkP' (W:List (List UInt8)):EnvT:=((rdD (W.getD 0 [])).1,(midL W).map (fun w=>(sgP w).1),(rdD (Lib.trimPrefix (lastW W) [46])).1)
theorem endE_0 {l:List UInt8} {e:EnvT} {b:Bool} (hl:l≠[]) (h:¬(b=true∧envT e=l)):endE envB l e b=(e0,false):=by
 unfold endE
 cases b with
 | false=>rfl
 | true =>
   cases hb:envB e with
   | false=>rfl
   | true =>
     rw[envT_ok hb] at h
     have:¬tE e=l:=fun e'=>h ⟨rfl,e'⟩
     rw[decide_eq_false this];rfl
theorem endE_1 {l:List UInt8} {e:EnvT} {b:Bool} (hl:l≠[]) (hb:b=true) (h:envT e=l):endE envB l e b=(e,true):=by
 subst hb
 cases he:envB e with
 | false=>rw[envT_no he] at h;exact absurd h.symm hl
 | true=>rw[envT_ok he] at h;exact endE_t envB he h
theorem rdP_0 {l:List UInt8} (h:¬2≤(wrdL l).length):rdP envB l=(e0,false):=by unfold rdP;rw[decide_eq_false h]
theorem rdP_1 {l:List UInt8} {k:Nat} (h:2≤(wrdL l).length) (hk:k < (midL (wrdL l)).length) (hs:(sgP ((midL (wrdL l)).getD k [])).2=false):rdP envB l=(e0,false):=by
 unfold rdP;rw[decide_eq_true h];simp only;rw[all_no (p:=fun w=>(sgP w).2) (d:=[]) hk hs]
theorem rdP_2 {l:List UInt8} (h:2≤(wrdL l).length) (ha:(midL (wrdL l)).all (fun w=>(sgP w).2)=true) :
 rdP envB l=endE envB l (mkP' (wrdL l)) ((rdD ((wrdL l).getD 0 [])).2 && (rdD (Lib.trimPrefix (lastW (wrdL l)) [46])).2):=by
 unfold rdP;rw[decide_eq_true h];simp only;rw[ha];rfl
theorem wrd_len (l:List UInt8):(wrdL l).length≤l.length+1:=Nat.le_trans (List.length_filter_le _ _) (splB_len 32 l).1
theorem wrd_ne {l:List UInt8} (h:2≤(wrdL l).length):l≠[]:=by rintro rfl;simp[wrdL,splB] at h
theorem rd_both (l:List UInt8):rdA envB l=rdP envB l:=rd_eq envB (fun e h=>by
 obtain⟨h1,h2,h3,h4⟩:=envB_parts h
 obtain⟨a1,a2⟩:=inR_iff.1 h2
 obtain⟨b1,b2⟩:=inR_iff.1 h3
 refine⟨⟨a1,a2⟩,fun x hx=>?_,⟨b1,by omega⟩,h4⟩
 obtain⟨⟨c1,c2⟩,c3,c4⟩:=seg_bd h1 hx
 exact⟨c1,c2,c3,c4⟩) l
theorem word_len {l:List UInt8} (h:l.length≤1048576):∀w∈splB 32 l,w.length≤1048576:=by
 have key:∀l:List UInt8,∀w∈splB 32 l,w.length≤l.length:=by
  intro l
  induction l with
  | nil=>intro w hw;simp[splB] at hw;subst hw;simp
  | cons b l ih =>
    intro w hw
    unfold splB at hw
    split at hw
    · rcases List.mem_cons.1 hw with rfl|hw
      · simp
      · have:=ih w hw;simp only[List.length_cons];omega
    · rcases List.mem_cons.1 hw with rfl|hw
      · have hne:=splB_ne 32 l
        cases e:splB 32 l with
        | nil=>exact absurd e hne
        | cons a r =>
          have:=ih a (by rw[e];exact List.mem_cons_self)
          simp only[List.headD_cons,List.length_cons];omega
      · have:=ih w (List.mem_of_mem_drop hw);simp only[List.length_cons];omega
 intro w hw
 exact Nat.le_trans (key l w hw) h
end Go.Proofs.YthhogcknkimijaaDoor
