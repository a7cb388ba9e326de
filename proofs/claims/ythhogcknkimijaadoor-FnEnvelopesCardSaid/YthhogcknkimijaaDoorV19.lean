/-
  Texts of this claim, joined (part 19). No condition beyond those of the theorems.
-/
import Derived.Test.YthhogcknkimijaaDoorV18
import Derived.Lib.ParseIntBTie
import Derived.Lib.AppendIntMem
import Derived.Shelf.Strconv.ParseIntPublic10
import Derived.Lib.SplitLaws
namespace Go.Proofs.YthhogcknkimijaaDoor
open Go.RowKit
set_option linter.unusedSimpArgs false
set_option linter.unusedVariables false
theorem globSyn {R:Rz} {w:World} (h:Glob R w):∃t p,w.cell? ⟨1,0,none⟩=some (.iface t p):=(h (_:Nat × _) (List.mem_cons_of_mem _ List.mem_cons_self)).2.2
theorem globRng {R:Rz} {w:World} (h:Glob R w):∃t p,w.cell? ⟨2,0,none⟩=some (.iface t p):=(h (_:Nat × _) (List.mem_cons_of_mem _ (List.mem_cons_of_mem _ List.mem_cons_self))).2.2
theorem globMax {R:Rz} {w:World} (h:Glob R w):∃m,w.cell? ⟨3,0,none⟩=some (.int .i64 m):=(h (_:Nat × _) (List.mem_cons_of_mem _ (List.mem_cons_of_mem _ (List.mem_cons_of_mem _ List.mem_cons_self)))).2.2
section
variable {R:Rz} {w:World}
theorem vr_sc2 (a b:Value):VR R w (.tup [.c (.sc a),.c (.sc b)]) (.tuple #[a,b]):=by
 simp only[VR,VRt];exact⟨_,rfl,_,_,rfl,rfl,_,_,rfl,rfl,rfl⟩
theorem vr_sc3 (a b c:Value):VR R w (.tup [.c (.sc a),.c (.sc b),.c (.sc c)]) (.tuple #[a,b,c]):=by
 simp only[VR,VRt];exact⟨_,rfl,_,_,rfl,rfl,_,_,rfl,rfl,_,_,rfl,rfl,rfl⟩
end
theorem split_lift {P:Program} {f:FuncId} {vs:Array Value} {s p:ByteArray} {R:Rz} {w:World} {e:TypeId} (hs:s.size≤1048576) (hp:p.data.toList.length=1)
 (h:∀m,w.cell? ⟨3,0,none⟩=some (.int .i64 m)→Calls P f vs w fun e' w'=>e'=.returned (.slice (some ⟨w.heap.size,0,none⟩) (Lib.countB s p+1) (Lib.countB s p+1))∧w'=w.alloc (.cells ((Lib.splitB p 0 (Lib.countB s p) s).map Value.string).toArray e))
 (hg:∃m,w.cell? ⟨3,0,none⟩=some (.int .i64 m)) :
 Calls P f vs w fun e' w'=>∃v R',e'=.returned v∧VR R' w' (.c (.rd [] e .str ((splB (p.data.toList.headD 0) s.data.toList).map bs))) v∧obsOk R' w' []∧Keeps R w R' w':=by
 obtain⟨m,hm⟩:=hg
 refine(h m hm).mono fun e' w' ⟨he,hw⟩=>?_
 obtain⟨c,hc⟩:∃c,p=bs [c]:=by
  cases hh:p.data.toList with
  | nil=>rw[hh] at hp;cases hp
  | cons c r =>
    rw[hh] at hp
    have hr:r=[]:=List.eq_nil_of_length_eq_zero (by simpa using hp)
    subst hr
    exact⟨c,by rw[←bs_of p,hh]⟩
 obtain⟨l,rfl⟩:∃l,s=bs l:=⟨s.data.toList,(bs_of s).symm⟩
 subst hc
 rw[bs_size] at hs
 have hlen:(splB c l).length=Lib.countB (bs l) (bs [c])+1:=by
  have:=Lib.splitB_all (bs [c]) (by rw[bs_size];simp) 0 _ (bs l) rfl
  rw[lib_splitB,List.length_map] at this
  exact this
 rw[lib_splitB] at hw
 simp only[bs_data,List.headD_cons]
 subst hw
 refine⟨_,{ R with root:=fun b=>if b < w.heap.size then R.root b else 0 },he,?_,obsOk_nil _ _,⟨rfl,rfl,rfl,by simp,fun b hb _=>⟨heap_alloc_old w _ hb,if_pos hb⟩⟩⟩
 have h1:=(splB_len c l).1
 have hml:((splB c l).map bs).length=Lib.countB (bs l) (bs [c])+1:=by rw[List.length_map];exact hlen
 show Rd _ _ (.row e .str) [_] _
 refine⟨_,Lib.countB (bs l) (bs [c])+1,by rw[hml],Nat.le_of_eq hml,by unfold maxLen;omega,fun _=>⟨w.heap.size,0,rfl,.inl (if_neg (Nat.lt_irrefl _)),fun i hi=>⟨[.string ((splB c l).map bs)[i]],rfl,fun j hj=>?_,rfl⟩⟩⟩
 have hj:j < 1:=hj
 obtain rfl:j=0:=by omega
 have hi':i < (splB c l).length:=by simpa using hi
 simp only[Ty.w,Nat.mul_one,Nat.add_zero,Nat.zero_add,List.getElem?_cons_zero,World.cell?,heap_alloc_new]
 simp[hi']
theorem flt_t {W:List (List UInt8)} {k:Nat} (h:k < W.length) (h2:W.getD k []≠[]):(W.take k).filter (fun w=>!decide (w=[]))++[W.getD k []]=(W.take (k+1)).filter fun w=>!decide (w=[]):=by
 rw[take_getD (d:=[]) h,List.filter_append]
 generalize W.getD k []=x at h2
 rw[List.filter_cons_of_pos (by rw[decide_eq_false h2];rfl)]
 rfl
theorem flt_f {W:List (List UInt8)} {k:Nat} (h:k < W.length) (h2:W.getD k []=[]):(W.take k).filter (fun w=>!decide (w=[]))=(W.take (k+1)).filter fun w=>!decide (w=[]):=by
 rw[take_getD (d:=[]) h,List.filter_append,h2]
 rw[List.filter_cons_of_neg (by simp)]
 simp
theorem sgP_cut (l:List UInt8):sgP l=(((rdD (Lib.cut (Lib.trimPrefix l [62]) [58]).2.1).1,(rdD (Lib.cut (Lib.trimPrefix l [62]) [58]).1).1),
 Lib.hasPrefix l [62] && ((Lib.cut (Lib.trimPrefix l [62]) [58]).2.2 && ((rdD (Lib.cut (Lib.trimPrefix l [62]) [58]).1).2 && (rdD (Lib.cut (Lib.trimPrefix l [62]) [58]).2.1).2))):=by
 unfold sgP
 rw[lib_cut]
 cases cutA 58 (Lib.trimPrefix l [62]) with
 | none=>simp
 | some x=>simp
theorem cutA_len {c:UInt8}:∀{l:List UInt8} {x:List UInt8 × List UInt8},cutA c l=some x→x.1.length≤l.length∧x.2.length≤l.length:=by
 intro l
 induction l with
 | nil=>intro x h;cases h
 | cons b l ih =>
   intro x h
   unfold cutA at h
   split at h
   · cases h;simp
   · obtain⟨y,hy,rfl⟩:=Option.map_eq_some_iff.1 h
     have:=ih hy
     simp only[List.length_cons];omega
theorem cut_le {l:List UInt8} {c:UInt8} (h:l.length≤1048576):(Lib.cut l [c]).1.length≤1048576∧(Lib.cut l [c]).2.1.length≤1048576:=by
 rw[lib_cut]
 cases hc:cutA c l with
 | none=>exact⟨h,by simp⟩
 | some x=>have:=cutA_len hc;exact⟨by simp only;omega,by simp only;omega⟩
theorem wrd_at {l:List UInt8} (h:l.length≤1048576) (k:Nat):((wrdL l).getD k []).length≤1048576:=by
 by_cases hk:k < (wrdL l).length
 · rw[show (wrdL l).getD k []=(wrdL l)[k] by simp[List.getD,hk]]
   exact word_len h _ (List.mem_filter.1 (List.getElem_mem hk)).1
 · simp[List.getD,List.getElem?_eq_none (show (wrdL l).length≤k by omega)]
theorem midw_at {l:List UInt8} (h:l.length≤1048576) (k:Nat):((midL (wrdL l)).getD k []).length≤1048576:=by
 by_cases hk:k+2 < (wrdL l).length
 · rw[←mid_at hk];exact wrd_at h _
 · simp[List.getD,List.getElem?_eq_none (show (midL (wrdL l)).length≤k by rw[mid_len];omega)]
theorem mid_drop {W:List (List UInt8)} (h:2≤W.length):((W.map bs).take ((W.length:Int) - 1).toNat).drop 1=(midL W).map bs:=by
 unfold midL
 rw[show ((W.length:Int) - 1).toNat=W.length - 1 by omega,List.map_dropLast,List.map_drop,List.dropLast_eq_take,List.length_drop,List.length_map,List.drop_take]
theorem envT_ne {l:List UInt8} {e:EnvT} (hl:l≠[]) (h:envT e=l):envB e=true:=by
 cases he:envB e with
 | true=>rfl
 | false=>rw[envT_no he] at h;exact absurd h.symm hl
theorem parse_ok_w (l:List UInt8) (hl:l.length≤1048576) (v:Int) (h:Lib.parseIntB 64 l=.ok v) (w:World) :
 Calls Tryd.prog 55 #[.string (bs l),.int .i64 10,.int .i64 64] w fun e w'=>e=.returned (.tuple #[.int .i64 v,.nilIface])∧Below w.heap.size w w' :=
 (Tryd.strconv_ParseInt_10_at64_ok (bs l) (by rw[bs_size];omega) v (by rw[bs_data];exact h) w).mono fun e w' ⟨he,hw⟩=>⟨he,by
  rcases hw with rfl|⟨t,rfl⟩
  · exact Below.refl _ _
  · exact Lib.bytesWorld_below _ _ _⟩
theorem parse_no_w (l:List UInt8) (hl:l.length≤1048576) (h:∀v,Lib.parseIntB 64 l≠.ok v) (w:World) (t1 t2:TypeId) (p1 p2:Value) (h1:w.cell? ⟨1,0,none⟩=some (.iface t1 p1)) (h2:w.cell? ⟨2,0,none⟩=some (.iface t2 p2)) :
 Calls Tryd.prog 55 #[.string (bs l),.int .i64 10,.int .i64 64] w fun e w'=>∃n T q,e=.returned (.tuple #[.int .i64 n,.iface T (.pointer (some q))])∧Below w.heap.size w w':=by
 cases hp:Lib.parseIntB 64 l
 · exact absurd hp (h _)
 · exact(Tryd.strconv_ParseInt_10_at64_syntax (bs l) (by rw[bs_size];omega) (by rw[bs_data];exact hp) _ w h1 (.inr ⟨_,_,rfl⟩)).mono fun e w' ⟨N,he,_,_,hb⟩=>⟨_,_,_,he,hb⟩
 · exact(Tryd.strconv_ParseInt_10_at64_range (bs l) (by rw[bs_size];omega) (by rw[bs_data];exact hp) _ w h2 (.inr ⟨_,_,rfl⟩)).mono fun e w' ⟨N,he,_,_,hb⟩=>⟨_,_,_,he,hb⟩
theorem dec_w (v : Int) (h0 : -9223372036854775808 ≤ v) (h1 : v ≤ 9223372036854775807) (w : World) (ht : Lib.TabIs Tryd.prog w "internal/strconv.uint64pow10" .u64 Lib.pow10Tab) :
 Calls Tryd.prog 28 #[.int .i64 v] w fun e w'=>e=.returned (.string (bs (Lib.itoa v)))∧Below w.heap.size w w':=by
 go_enter Tryd.func28,Tryd.ntmps28
 go_wp2_with (go_at_call 52;refine(Tryd.strconv_FormatInt_10 v h0 h1 _ ht).mono ?_;rintro e w' ⟨rfl,k,os,rfl⟩)
 go_ret
 exact⟨rfl,below_grownS _ _ _⟩
theorem trim_w (s p:List UInt8) (w:World):Calls Tryd.prog 35 #[.string (bs s),.string (bs p)] w fun e w'=>e=.returned (.string (bs (Lib.trimPrefix s p)))∧w'=w :=
 (Tryd.strings_TrimPrefix (bs s) (bs p) w).mono fun e w' ⟨he,hw⟩=>⟨by rw[he,bs_data,bs_data];rfl,hw⟩
theorem rdD_no {l:List UInt8} (h:∀v,Lib.parseIntB 64 l≠.ok v):rdD l=(0,false):=by
 unfold rdD
 split
 · rename_i n hn;exact absurd hn (h n)
 · rfl
theorem rdD_ok {l:List UInt8} {v:Int} (h:Lib.parseIntB 64 l=.ok v):rdD l=if Lib.itoa v=l∧(Lib.trimPrefix l [45]).length≤18 then (v,true) else (0,false):=by
 unfold rdD
 rw[h]
 simp only
 by_cases a:Lib.itoa v=l
 · by_cases b:(Lib.trimPrefix l [45]).length≤18
   · rw[if_pos ⟨a,b⟩,decide_eq_true a,decide_eq_true b];rfl
   · rw[if_neg (fun h=>b h.2),decide_eq_true a,decide_eq_false b];rfl
 · rw[if_neg (fun h=>a h.1),decide_eq_false a];rfl
set_option maxHeartbeats 4000000 in
theorem readDec_w (l : List UInt8) (hl : l.length ≤ 1048576) (w : World) (ht : Lib.TabIs Tryd.prog w "internal/strconv.uint64pow10" .u64 Lib.pow10Tab) (t1 t2 : TypeId) (p1 p2 : Value)
 (h1:w.cell? ⟨1,0,none⟩=some (.iface t1 p1)) (h2:w.cell? ⟨2,0,none⟩=some (.iface t2 p2)) :
 Calls Tryd.prog 34 #[.string (bs l)] w fun e w'=>e=.returned (.tuple #[.int .i64 (rdD l).1,.bool (rdD l).2])∧Below w.heap.size w w':=by
 by_cases hp:∃v,Lib.parseIntB 64 l=.ok v
 · obtain⟨v,hp⟩:=hp
   obtain⟨b1,b2⟩:=Lib.parseIntB_bounds hp
   have b1 : -9223372036854775808 ≤ v := by have : -((2 ^ (64 - 1) : Nat) : Int) = -9223372036854775808 := by decide
                                            omega
   have b2 : v ≤ 9223372036854775807 := by have : ((2 ^ (64 - 1) : Nat) : Int) = 9223372036854775808 := by decide
                                           omega
   have hT : ∀ w', Below w.heap.size w w' → Lib.TabIs Tryd.prog w' "internal/strconv.uint64pow10" .u64 Lib.pow10Tab := Lib.tabBelow_of_tabIs ht
   have hR:=rdD_ok hp
   have HP:=Lib.hid (fun w=>parse_ok_w l hl v hp w)
   have HD:=Lib.hid (fun w' (hb:Below w.heap.size w w')=>dec_w v b1 b2 w' (hT w' hb))
   clear hp ht h1 h2 hT
   have HTr0:=trim_w l [45]
   generalize hq:Lib.trimPrefix l [45]=q at hR HTr0
   have HTr:=Lib.hid HTr0
   clear HTr0
   by_cases c1:Lib.itoa v=l
   · have d1:((bs (Lib.itoa v)).toList == (bs l).toList)=true:=by rw[bs_beq];exact decide_eq_true c1
     by_cases c2:q.length≤18
     · rw[if_pos ⟨c1,c2⟩] at hR
       have c3:decide ((18:Int) < (q.length:Int))=false:=decide_eq_false (by omega)
       rw[hR]
       clear hR c1 hq c2
       go_enter Tryd.func34,Tryd.ntmps34
       go_wp2_with (first
        | (go_at_call 55;refine(HP.out _).mono ?_;rintro e wa ⟨rfl,hba⟩;have HBA:=Lib.hid hba;clear hba)
        | (go_at_call 28;refine(HD.out _ (by first|exact HBA.out|assumption)).mono ?_;rintro e wb ⟨rfl,hbb⟩;have HBB:=Lib.hid (HBA.out.trans (hbb.mono HBA.out.size));clear hbb)
        | (go_at_call 35;refine(HTr.out _).mono ?_;rintro e wc ⟨rfl,rfl⟩))
       go_ret2
       exact⟨rfl,HBB.out⟩
     · rw[if_neg (fun h=>c2 h.2)] at hR
       have c3:decide ((18:Int) < (q.length:Int))=true:=decide_eq_true (by omega)
       rw[hR]
       clear hR c1 hq c2
       go_enter Tryd.func34,Tryd.ntmps34
       go_wp2_with (first
        | (go_at_call 55;refine(HP.out _).mono ?_;rintro e wa ⟨rfl,hba⟩;have HBA:=Lib.hid hba;clear hba)
        | (go_at_call 28;refine(HD.out _ (by first|exact HBA.out|assumption)).mono ?_;rintro e wb ⟨rfl,hbb⟩;have HBB:=Lib.hid (HBA.out.trans (hbb.mono HBA.out.size));clear hbb)
        | (go_at_call 35;refine(HTr.out _).mono ?_;rintro e wc ⟨rfl,rfl⟩))
       go_ret2
       exact⟨rfl,HBB.out⟩
   · have d1:((bs (Lib.itoa v)).toList == (bs l).toList)=false:=by rw[bs_beq];exact decide_eq_false c1
     rw[if_neg (fun h=>c1 h.1)] at hR
     rw[hR]
     clear hR c1 hq
     go_enter Tryd.func34,Tryd.ntmps34
     go_wp2_with (first
      | (go_at_call 55;refine(HP.out _).mono ?_;rintro e wa ⟨rfl,hba⟩;have HBA:=Lib.hid hba;clear hba)
      | (go_at_call 28;refine(HD.out _ (by first|exact HBA.out|assumption)).mono ?_;rintro e wb ⟨rfl,hbb⟩;have HBB:=Lib.hid (HBA.out.trans (hbb.mono HBA.out.size));clear hbb)
      | (go_at_call 35;refine(HTr.out _).mono ?_;rintro e wc ⟨rfl,rfl⟩))
     go_ret2
     exact⟨rfl,HBB.out⟩
 · have hn:∀v,Lib.parseIntB 64 l≠.ok v:=fun v h=>hp ⟨v,h⟩
   rw[rdD_no hn]
   have HP:=Lib.hid (parse_no_w l hl hn w t1 t2 p1 p2 h1 h2)
   clear hn hp ht h1 h2
   go_enter Tryd.func34,Tryd.ntmps34
   go_wp2_with (go_at_call 55;refine HP.out.mono ?_;rintro e wa ⟨n,T,q,rfl,hba⟩;have HBA:=Lib.hid hba;clear hba)
   go_ret2
   exact⟨rfl,HBA.out⟩
end Go.Proofs.YthhogcknkimijaaDoor
