/-
  Texts of this claim, joined (part 38). No condition beyond those of the theorems.
-/
import Derived.Test.YtenjbehedcegdaaDoorP31
import Derived.Test.YtenjbehedcegdaaDoorP37
namespace Go.Proofs.YtenjbehedcegdaaDoor
open Go.RowKit
set_option linter.unusedSimpArgs false
set_option linter.unusedVariables false
set_option maxRecDepth 100000
set_option maxHeartbeats 8000000
def T_mHtB0:Tab:=fun f=>match T_l01Dec f with
 | some k=>some k
 | none=>T_specVProg f
theorem T_mHtB0_ok:TabOk Tryd.prog T_mHtB0:=tabM T_l01Dec_ok T_specVProg_ok
attribute [go_sem] T_mHtB0 T0
def K_l03Text:Con:=⟨[.val ((.row 2 (.int .i64)))],[⟨.str,true⟩],fun x=>x.1.length≤1000∧x.1.all i64B=true,fun x=>bs (numsT x.1)⟩
theorem l03Text_ok:PureT Tryd.prog 49 K_l03Text:=by
  refine pure_of_body Tryd.func49 rfl ?_
  have hres:Tryd.f49.results.toList=[.tmp 2]:=rfl
  rintro⟨(xs:List Int),_⟩ hc hL
  simp only[K_l03Text,go_sem] at hL
  simp only[K_l03Text,St.init,St.initG,Tryd.ntmps49,go_sem] 
  obtain⟨hl,ha⟩:=(show xs.length≤1000∧xs.all i64B=true from hc)
  refine oS fun _ hK1=>?_
  refine oW T_mHtB0_ok ?_
  simp only[go_sem]
  refine hK1 _ ?_
  refine oS fun _ hK2=>?_
  refine oW T_mHtB0_ok ?_
  simp only[go_sem]
  refine hK2 _ ?_
  refine oS fun _ hK3=>?_
  refine oS fun _ hK4=>?_
  refine oW T_mHtB0_ok ?_
  simp only[go_sem]
  refine hK4 _ ?_
  refine AWP_block ?_
  refine AWP_loop_k (ι:={ k:Nat // k≤xs.length }) (fun k=>⟨[.c (.rd [] 2 (.int .i64) (xs)),zz,zz,.c (.sc (.string (bs (numsT (xs.take k.1))))),.c (.sc (.int .i64 (k.1))),zz,zz,zz,zz,zz,zz,zz,zz,zz,zz,zz,zz,zz,zz,zz,zz,zz,zz],[]⟩) (fun k=>xs.length - k.1) ⟨0,by simp⟩ ?_ ?_
  ·
   refine oK ?_
   simp (maxSteps:=2000000)only[go_sem]
   all_goals((repeat' refine And.intro ?_ ?_)<;>first|rfl|(congr 1;done)|(simp[numsT_nil];done))
  rintro⟨k,hk⟩ K5 hL5
  have hi:k < xs.length→(-9223372036854775808≤(xs.getD k 0)∧(xs.getD k 0)≤9223372036854775807)∧(Lib.itoa (xs.getD k 0)).length≤21:=fun h=>nums_at ha h
  have htl:=numsT_take_len hl ha k
  refine oS fun _ hK6=>?_
  refine oS fun _ hK7=>?_
  refine oW T_mHtB0_ok ?_
  simp only[go_sem]
  refine hK7 _ ?_
  refine oC rfl ?_ ?_
  ·
   intro c0
   obtain⟨hd1,hd2⟩:=hi (by omega)
   refine AWP_skip ?_
   simp only[go_sem]
   refine hK6 _ ?_
   refine oS fun _ hK8=>?_
   refine AWP_block ?_
   refine oS fun _ hK9=>?_
   refine oS fun _ hK10=>?_
   refine oW T_mHtB0_ok ?_
   simp only[go_sem]
   refine hK10 _ ?_
   refine oC rfl ?_ ?_
   ·
    intro c1
    have hnx:=numsT_next (l:=xs) (k:=k) (by omega) (by omega)
    refine oW T_mHtB0_ok ?_
    simp only[List.length_append,List.length_cons,List.length_nil,go_sem]
    repeat(with_reducible first|refine oA ?_|refine And.intro (by first|omega) ?_)
    refine hK9 _ ?_
    refine oW T_mHtB0_ok ?_
    simp (maxSteps:=2000000)only[List.length_append,List.length_cons,List.length_nil,go_sem]
    repeat(with_reducible first|refine oA ?_|refine And.intro (by first|exact hd1|exact⟨by omega,by omega⟩|omega) ?_)
    refine hK8 _ ?_
    refine oW T_mHtB0_ok ?_
    simp only[go_sem]
    refine hL5 ⟨k+1,by omega⟩ _ (oK ?_) ?_
    ·
     simp (maxSteps:=2000000)only[go_sem]
     all_goals((repeat' refine And.intro ?_ ?_)<;>first|rfl|exact wk (by omega)|(rw[hnx];done)|(congr 1;rw[hnx];done)|(rw[hnx,List.append_assoc];done)|(congr 1;rw[hnx,List.append_assoc];done)|(rw[hnx];rfl)|(congr 1;rw[hnx];rfl))
    ·
     first|(simp only[];omega)|omega|(simp;omega)
   intro c1
   have hk0:k=0:=by omega
   have hnx:numsT (xs.take (k+1))=numsT (xs.take k)++Lib.itoa (xs.getD k 0):=by subst hk0;exact numsT_one (by omega)
   refine AWP_skip ?_
   simp only[go_sem]
   refine hK9 _ ?_
   refine oW T_mHtB0_ok ?_
   simp (maxSteps:=2000000)only[List.length_append,List.length_cons,List.length_nil,go_sem]
   repeat(with_reducible first|refine oA ?_|refine And.intro (by first|exact hd1|exact⟨by omega,by omega⟩|omega) ?_)
   refine hK8 _ ?_
   refine oW T_mHtB0_ok ?_
   simp only[go_sem]
   refine hL5 ⟨k+1,by omega⟩ _ (oK ?_) ?_
   ·
    simp (maxSteps:=2000000)only[go_sem]
    all_goals((repeat' refine And.intro ?_ ?_)<;>first|rfl|exact wk (by omega)|(rw[hnx];done)|(congr 1;rw[hnx];done)|(rw[hnx,List.append_assoc];done)|(congr 1;rw[hnx,List.append_assoc];done)|(rw[hnx];rfl)|(congr 1;rw[hnx];rfl))
   ·
    first|(simp only[];omega)|omega|(simp;omega)
  intro c0
  have hk3:xs.take k=xs:=List.take_of_length_le (by omega)
  refine AWP_exit ?_
  simp only[go_sem]
  refine hK3 _ ?_
  refine oS fun _ hK11=>?_
  refine oW T_mHtB0_ok ?_
  simp only[go_sem]
  refine hK11 _ ?_
  refine AWP_ret ?_
  simp only[hres,go_sem]
  first|exact oF|(refine⟨?_,oF⟩;rw[hk3])
def T_l03Text:Tab:=fun f=>if f=49 then some (.p K_l03Text) else T_mHtB0 f
theorem T_l03Text_ok:TabOk Tryd.prog T_l03Text:=tabP l03Text_ok (fnOk_of Tryd.func49 rfl (by decide)) T_mHtB0_ok
attribute [go_sem] T_l03Text K_l03Text
def K_l06Names:Con:=⟨[],[⟨(.row 9 (.str)),true⟩],fun _=>True,fun _=>namesT.map bs⟩
theorem l06Names_ok:PureT Tryd.prog 47 K_l06Names:=by
  refine pure_of_body Tryd.func47 rfl ?_
  have hres:Tryd.f47.results.toList=[.tmp 0]:=rfl
  rintro _ hc hL
  simp only[K_l06Names,go_sem] at hL
  simp only[K_l06Names,St.init,St.initG,Tryd.ntmps47,go_sem] 
  refine oS fun _ hK1=>?_
  refine oW T_l03Text_ok ?_
  simp only[go_sem]
  refine hK1 _ ?_
  refine oS fun _ hK2=>?_
  refine oW T_l03Text_ok ?_
  simp only[go_sem]
  repeat(with_reducible refine oA ?_)
  refine hK2 _ ?_
  refine AWP_ret ?_
  simp only[hres,go_sem]
  first|exact oF|exact oFr
def T_l06Names:Tab:=fun f=>if f=47 then some (.p K_l06Names) else T_l03Text f
theorem T_l06Names_ok:TabOk Tryd.prog T_l06Names:=tabP l06Names_ok (fnOk_of Tryd.func47 rfl (by decide)) T_l03Text_ok
attribute [go_sem] T_l06Names K_l06Names
def K_l06Text:Con:=⟨[.ptr (.prod (.int .i64) (.prod (.int .i64) (.prod (.int .i64) (.row 2 (.int .i64)))))],[⟨.str,true⟩],fun x=>txOk x.1,fun x=>bs (nodeT x.1)⟩
theorem l06Text_ok:PureT Tryd.prog 30 K_l06Text:=by
  refine pure_of_body Tryd.func30 rfl ?_
  have hres:Tryd.f30.results.toList=[.tmp 2]:=rfl
  rintro⟨⟨(kd:Int),(a:Int),(bb:Int),(fr:List Int)⟩,_⟩ hc hL
  simp only[K_l06Text,go_sem] at hL
  simp only[K_l06Text,St.init,St.initG,Tryd.ntmps30,go_sem] 
  have hT:txOk (kd,a,bb,fr):=hc
  obtain⟨hk0,ha0,hb0,hf3,hfa⟩:=id hT
  simp only at hk0 ha0 hb0 hf3 hfa
  obtain⟨hk1,hk2⟩:=inR_iff.1 hk0
  have hda:=i64_iff ha0
  have hdb:=i64_iff hb0
  have hla:=itoa_len20 hda.1 hda.2
  have hlb:=itoa_len20 hdb.1 hdb.2
  have hfn:=numsT_len hfa
  have hnk:=nameK_len kd
  have hfc:fr.length≤1000∧fr.all i64B=true:=⟨by omega,hfa⟩
  have hnl:(namesT.map bs).length=18:=rfl
  have hna:=names_at kd
  have hna2:(namesT.map bs).getD kd.toNat ByteArray.empty=bs (nameK kd):=hna
  refine oS fun _ hK1=>?_
  refine oW T_l06Names_ok ?_
  simp only[go_sem]
  refine hK1 _ ?_
  refine oS fun _ hK2=>?_
  refine oR T_l06Names_ok
    [[],[],[1],[1,2],[1,2,3],[0,1,2,3,4],[0,1,2,3,4,5],[0,1,2,3,4,5,6]]
    [[],[164,165,166,167,168,169,170,171,172,173,174,175,176,177,178,179],[164,165,166,167,168,169,170,171,172,173,174,175,176,177,178,179],[164,165,166,167,168,169,170,171,172,173,174,175,176,177,178,179],[164,165,166,167,168,169,170,171,172,173,174,175,176,177,178,179],[],[],[]]
    [[164,165,166,167,168,169,170,171,172,173,174,175,176,177,178,179],[],[],[],[],[],[],[]] (by kernel_rfl) (by kernel_rfl) (adrawR_ok (acc:=[]) ?_)
  simp (maxSteps:=2000000)only[hnl,hna,hna2,go_sem]
  repeat(with_reducible first|refine oD ?_|refine And.intro (by first|exact⟨by omega,by omega⟩|omega) ?_)
  refine hK2 _ ?_
  refine oS fun _ hK3=>?_
  refine oS fun _ hK4=>?_
  refine oW T_l06Names_ok ?_
  simp (maxSteps:=2000000)only[go_sem]
  repeat(with_reducible refine oA ?_)
  refine hK4 _ ?_
  refine oC rfl ?_ ?_
  ·
   intro c0
   have q1:aB kd=true:=(aB_has hk0).symm.trans c0
   refine oW T_l06Names_ok ?_
   simp (maxSteps:=2000000)only[List.length_append,List.length_cons,List.length_nil,go_sem]
   repeat(with_reducible first|refine oA ?_|refine And.intro (by first|exact hda|omega) ?_)
   refine hK3 _ ?_
   refine oS fun _ hK5=>?_
   refine oS fun _ hK6=>?_
   refine oW T_l06Names_ok ?_
   simp (maxSteps:=2000000)only[go_sem]
   repeat(with_reducible refine oA ?_)
   refine hK6 _ ?_
   refine oC rfl ?_ ?_
   ·
    intro c1
    have q2:decide (kd=17)=true:=decide_eq_true c1
    refine oW T_l06Names_ok ?_
    simp (maxSteps:=2000000)only[List.length_append,List.length_cons,List.length_nil,go_sem]
    repeat(with_reducible first|refine oA ?_|refine And.intro (by first|exact hdb|omega) ?_)
    refine hK5 _ ?_
    refine oS fun _ hK7=>?_
    refine oS fun _ hK8=>?_
    refine oW T_l06Names_ok ?_
    simp (maxSteps:=2000000)only[go_sem]
    repeat(with_reducible refine oA ?_)
    refine hK8 _ ?_
    refine oC rfl ?_ ?_
    ·
     intro c2
     have q3:decide (0 < fr.length)=true:=decide_eq_true (by omega)
     refine oW T_l06Names_ok ?_
     simp (maxSteps:=2000000)only[List.length_append,List.length_cons,List.length_nil,go_sem]
     repeat(with_reducible first|refine oA ?_|refine And.intro (by first|exact hfc|omega) ?_)
     refine hK7 _ ?_
     refine oS fun _ hK9=>?_
     refine oW T_l06Names_ok ?_
     simp only[go_sem]
     refine hK9 _ ?_
     refine AWP_ret ?_
     simp only[hres,go_sem]
     first
      | exact oF
      | refine ⟨?_, oF⟩
        rw[nodeT_eq (n:=(kd,a,bb,fr)) q1 q2 q3]
        first|rfl|(simp only[nodeZ,List.append_assoc,List.cons_append,List.nil_append,List.append_nil];done)
    intro c2
    have q3:decide (0 < fr.length)=false:=decide_eq_false (by omega)
    refine AWP_skip ?_
    simp only[go_sem]
    refine hK7 _ ?_
    refine oS fun _ hK10=>?_
    refine oW T_l06Names_ok ?_
    simp only[go_sem]
    refine hK10 _ ?_
    refine AWP_ret ?_
    simp only[hres,go_sem]
    first
     | exact oF
     | refine ⟨?_, oF⟩
       rw[nodeT_eq (n:=(kd,a,bb,fr)) q1 q2 q3]
       first|rfl|(simp only[nodeZ,List.append_assoc,List.cons_append,List.nil_append,List.append_nil];done)
   intro c1
   have q2:decide (kd=17)=false:=decide_eq_false c1
   refine AWP_skip ?_
   simp only[go_sem]
   refine hK5 _ ?_
   refine oS fun _ hK11=>?_
   refine oS fun _ hK12=>?_
   refine oW T_l06Names_ok ?_
   simp (maxSteps:=2000000)only[go_sem]
   repeat(with_reducible refine oA ?_)
   refine hK12 _ ?_
   refine oC rfl ?_ ?_
   ·
    intro c2
    have q3:decide (0 < fr.length)=true:=decide_eq_true (by omega)
    refine oW T_l06Names_ok ?_
    simp (maxSteps:=2000000)only[List.length_append,List.length_cons,List.length_nil,go_sem]
    repeat(with_reducible first|refine oA ?_|refine And.intro (by first|exact hfc|omega) ?_)
    refine hK11 _ ?_
    refine oS fun _ hK13=>?_
    refine oW T_l06Names_ok ?_
    simp only[go_sem]
    refine hK13 _ ?_
    refine AWP_ret ?_
    simp only[hres,go_sem]
    first
     | exact oF
     | refine ⟨?_, oF⟩
       rw[nodeT_eq (n:=(kd,a,bb,fr)) q1 q2 q3]
       first|rfl|(simp only[nodeZ,List.append_assoc,List.cons_append,List.nil_append,List.append_nil];done)
   intro c2
   have q3:decide (0 < fr.length)=false:=decide_eq_false (by omega)
   refine AWP_skip ?_
   simp only[go_sem]
   refine hK11 _ ?_
   refine oS fun _ hK14=>?_
   refine oW T_l06Names_ok ?_
   simp only[go_sem]
   refine hK14 _ ?_
   refine AWP_ret ?_
   simp only[hres,go_sem]
   first
    | exact oF
    | refine ⟨?_, oF⟩
      rw[nodeT_eq (n:=(kd,a,bb,fr)) q1 q2 q3]
      first|rfl|(simp only[nodeZ,List.append_assoc,List.cons_append,List.nil_append,List.append_nil];done)
  intro c0
  have q1:aB kd=false:=(aB_has hk0).symm.trans c0
  refine AWP_skip ?_
  simp only[go_sem]
  refine hK3 _ ?_
  refine oS fun _ hK15=>?_
  refine oS fun _ hK16=>?_
  refine oW T_l06Names_ok ?_
  simp (maxSteps:=2000000)only[go_sem]
  repeat(with_reducible refine oA ?_)
  refine hK16 _ ?_
  refine oC rfl ?_ ?_
  ·
   intro c1
   have q2:decide (kd=17)=true:=decide_eq_true c1
   refine oW T_l06Names_ok ?_
   simp (maxSteps:=2000000)only[List.length_append,List.length_cons,List.length_nil,go_sem]
   repeat(with_reducible first|refine oA ?_|refine And.intro (by first|exact hdb|omega) ?_)
   refine hK15 _ ?_
   refine oS fun _ hK17=>?_
   refine oS fun _ hK18=>?_
   refine oW T_l06Names_ok ?_
   simp (maxSteps:=2000000)only[go_sem]
   repeat(with_reducible refine oA ?_)
   refine hK18 _ ?_
   refine oC rfl ?_ ?_
   ·
    intro c2
    have q3:decide (0 < fr.length)=true:=decide_eq_true (by omega)
    refine oW T_l06Names_ok ?_
    simp (maxSteps:=2000000)only[List.length_append,List.length_cons,List.length_nil,go_sem]
    repeat(with_reducible first|refine oA ?_|refine And.intro (by first|exact hfc|omega) ?_)
    refine hK17 _ ?_
    refine oS fun _ hK19=>?_
    refine oW T_l06Names_ok ?_
    simp only[go_sem]
    refine hK19 _ ?_
    refine AWP_ret ?_
    simp only[hres,go_sem]
    first
     | exact oF
     | refine ⟨?_, oF⟩
       rw[nodeT_eq (n:=(kd,a,bb,fr)) q1 q2 q3]
       first|rfl|(simp only[nodeZ,List.append_assoc,List.cons_append,List.nil_append,List.append_nil];done)
   intro c2
   have q3:decide (0 < fr.length)=false:=decide_eq_false (by omega)
   refine AWP_skip ?_
   simp only[go_sem]
   refine hK17 _ ?_
   refine oS fun _ hK20=>?_
   refine oW T_l06Names_ok ?_
   simp only[go_sem]
   refine hK20 _ ?_
   refine AWP_ret ?_
   simp only[hres,go_sem]
   first
    | exact oF
    | refine ⟨?_, oF⟩
      rw[nodeT_eq (n:=(kd,a,bb,fr)) q1 q2 q3]
      first|rfl|(simp only[nodeZ,List.append_assoc,List.cons_append,List.nil_append,List.append_nil];done)
  intro c1
  have q2:decide (kd=17)=false:=decide_eq_false c1
  refine AWP_skip ?_
  simp only[go_sem]
  refine hK15 _ ?_
  refine oS fun _ hK21=>?_
  refine oS fun _ hK22=>?_
  refine oW T_l06Names_ok ?_
  simp (maxSteps:=2000000)only[go_sem]
  repeat(with_reducible refine oA ?_)
  refine hK22 _ ?_
  refine oC rfl ?_ ?_
  ·
   intro c2
   have q3:decide (0 < fr.length)=true:=decide_eq_true (by omega)
   refine oW T_l06Names_ok ?_
   simp (maxSteps:=2000000)only[List.length_append,List.length_cons,List.length_nil,go_sem]
   repeat(with_reducible first|refine oA ?_|refine And.intro (by first|exact hfc|omega) ?_)
   refine hK21 _ ?_
   refine oS fun _ hK23=>?_
   refine oW T_l06Names_ok ?_
   simp only[go_sem]
   refine hK23 _ ?_
   refine AWP_ret ?_
   simp only[hres,go_sem]
   first
    | exact oF
    | refine ⟨?_, oF⟩
      rw[nodeT_eq (n:=(kd,a,bb,fr)) q1 q2 q3]
      first|rfl|(simp only[nodeZ,List.append_assoc,List.cons_append,List.nil_append,List.append_nil];done)
  intro c2
  have q3:decide (0 < fr.length)=false:=decide_eq_false (by omega)
  refine AWP_skip ?_
  simp only[go_sem]
  refine hK21 _ ?_
  refine oS fun _ hK24=>?_
  refine oW T_l06Names_ok ?_
  simp only[go_sem]
  refine hK24 _ ?_
  refine AWP_ret ?_
  simp only[hres,go_sem]
  first
   | exact oF
   | refine ⟨?_, oF⟩
     rw[nodeT_eq (n:=(kd,a,bb,fr)) q1 q2 q3]
     first|rfl|(simp only[nodeZ,List.append_assoc,List.cons_append,List.nil_append,List.append_nil];done)
def T_l06Text:Tab:=fun f=>if f=30 then some (.p K_l06Text) else T_l06Names f
theorem T_l06Text_ok:TabOk Tryd.prog T_l06Text:=tabP l06Text_ok (fnOk_of Tryd.func30 rfl (by decide)) T_l06Names_ok
attribute [go_sem] T_l06Text K_l06Text
def K_l11Text:Con:=⟨[.ptr (.prod (.int .i64) (.prod (.int .i64) (.prod (.int .i64) (.prod (.int .i64) (.prod (.row 2 (.int .i64)) (.int .i64))))))],[⟨.str,true⟩],fun x=>txX x.1,fun x=>bs (textX x.1)⟩
theorem l11Text_ok:PureT Tryd.prog 13 K_l11Text:=by
  refine pure_of_body Tryd.func13 rfl ?_
  have hres:Tryd.f13.results.toList=[.tmp 2]:=rfl
  rintro⟨⟨(kd:Int),(a:Int),(bb:Int),(nd:Int),(fr:List Int),(tt:Int)⟩,_⟩ hc hL
  simp only[K_l11Text,go_sem] at hL
  simp only[K_l11Text,St.init,St.initG,Tryd.ntmps13,go_sem] 
  have hT:txX (kd,a,bb,nd,fr,tt):=hc
  obtain⟨hn0,hs0,ht0⟩:=id hT
  simp only at hn0 hs0 ht0
  have hdn:-9223372036854775808≤nd∧nd≤9223372036854775807:=i64_iff hn0
  have hln:=itoa_len20 hdn.1 hdn.2
  refine oS fun _ hK1=>?_
  refine oW T_l06Text_ok ?_
  simp only[go_sem]
  refine hK1 _ ?_
  refine oS fun _ hK2=>?_
  refine oS fun _ hK3=>?_
  refine oW T_l06Text_ok ?_
  simp (maxSteps:=2000000)only[go_sem]
  repeat(with_reducible refine oA ?_)
  refine hK3 _ ?_
  refine oC rfl ?_ ?_
  ·
   intro c0
   have h18:kd=18:=by first|assumption|omega
   obtain⟨hf1,hf2⟩:=hs0 h18
   have hf1:fr.length=1:=hf1
   have hdf:-9223372036854775808≤fr.getD 0 0∧fr.getD 0 0≤9223372036854775807:=i64_iff hf2
   have hlf:=itoa_len20 hdf.1 hdf.2
   refine oS fun _ hK4=>?_
   refine oR T_l06Text_ok
     [[],[0],[0,1],[0,1,2],[0,1,2,3],[0,1,2,3,4],[0,1,2,3,4,5],[],[7],[7,8],[7,8,9],[7,8,9,10],[7,8,9,10,11],[0,1,2,3,4,7,8,9,10,11,12],[0,1,2,3,4,5,6,7,8,9,10,11,12,13],[0,1,2,3,4,5,6,7,8,9,10,11,12,13,14]]
     [[],[],[],[],[],[],[],[],[],[],[],[],[],[],[],[]]
     [[],[],[],[],[],[],[],[],[],[],[],[],[],[],[],[]] (by kernel_rfl) (by kernel_rfl) (adrawR_ok (acc:=[]) ?_)
   simp (maxSteps:=2000000)only[List.length_append,List.length_cons,List.length_nil,go_sem]
   repeat(with_reducible first|refine oD ?_|refine And.intro (by first|exact hdn|exact hdf|exact hdt|exact htx|exact⟨by omega,by omega⟩|omega) ?_)
   refine hK4 _ ?_
   refine AWP_ret ?_
   simp only[hres,go_sem]
   first
    | exact oF
    | refine ⟨?_, oF⟩
      rw[textX_t (x:=(kd,a,bb,nd,fr,tt)) h18]
      first|rfl|(simp only[List.append_assoc,List.cons_append,List.nil_append,List.append_nil,nodeX];done)
  intro c0
  have h18:¬kd=18:=by first|assumption|omega
  obtain⟨ht1,ht2⟩:=ht0 h18
  have hdt:-9223372036854775808≤tt∧tt≤9223372036854775807:=i64_iff ht1
  have hlt:=itoa_len20 hdt.1 hdt.2
  have hnt:=nodeT_len ht2
  have htx:txOk (kd,a,bb,fr):=ht2
  have hnt:(nodeT (kd,a,bb,fr)).length≤130:=hnt
  refine AWP_skip ?_
  simp only[go_sem]
  refine hK2 _ ?_
  refine oS fun _ hK5=>?_
  refine oW T_l06Text_ok ?_
  simp only[List.length_append,List.length_cons,List.length_nil,nodeX,xF,go_sem]
  repeat(with_reducible first|refine oA ?_|refine And.intro (by first|exact hdn|exact hdf|exact hdt|exact htx|exact⟨by omega,by omega⟩|omega) ?_)
  refine hK5 _ ?_
  refine oS fun _ hK6=>?_
  refine oW T_l06Text_ok ?_
  simp (maxSteps:=2000000)only[List.length_append,List.length_cons,List.length_nil,nodeX,xF,go_sem]
  repeat(with_reducible first|refine oA ?_|refine And.intro (by first|exact hdn|exact hdf|exact hdt|exact htx|exact⟨by omega,by omega⟩|omega) ?_)
  refine hK6 _ ?_
  refine AWP_ret ?_
  simp only[hres,go_sem]
  first
   | exact oF
   | refine ⟨?_, oF⟩
     rw[textX_f (x:=(kd,a,bb,nd,fr,tt)) h18]
     first|rfl|(simp only[List.append_assoc,List.cons_append,List.nil_append,List.append_nil,nodeX];done)
def T_l11Text:Tab:=fun f=>if f=13 then some (.p K_l11Text) else T_l06Text f
theorem T_l11Text_ok:TabOk Tryd.prog T_l11Text:=tabP l11Text_ok (fnOk_of Tryd.func13 rfl (by decide)) T_l06Text_ok
attribute [go_sem] T_l11Text K_l11Text
def K_specPT:Con:=⟨[.val ((.prod (.int .i64) (.prod (.int .i64) (.prod (.row 24 (.row 2 (.int .i64))) (.prod (.row 43 (.prod (.int .i64) (.prod (.int .i64) (.prod (.int .i64) (.prod (.int .i64) (.prod (.row 2 (.int .i64)) (.int .i64))))))) (.row 2 (.int .i64)))))))],[⟨.str,true⟩],fun _=>True,fun x=>bs (textG x.1)⟩
theorem specPT_ok:PureT Tryd.prog 5 K_specPT:=by
  refine pure_of_body Tryd.func5 rfl ?_
  have hres:Tryd.f5.results.toList=[.tmp 2]:=rfl
  rintro⟨⟨(gi:Int),(gr:Int),(ts:List (List Int)),(xs:List InstrD),(os:List Int)⟩,_⟩ hc hL
  simp only[K_specPT,go_sem] at hL
  simp only[K_specPT,St.init,St.initG,Tryd.ntmps5,go_sem] 
  have hx0:x0=((0,0,0,0,[],0):InstrD):=rfl
  refine oS fun _ hK1=>?_
  refine oW T_l11Text_ok ?_
  simp only[go_sem]
  refine hK1 _ ?_
  refine oS fun _ hK2=>?_
  refine oS fun _ hK3=>?_
  refine oW T_l11Text_ok ?_
  simp only[go_sem]
  repeat(with_reducible refine oA ?_)
  refine hK3 _ ?_
  refine oC rfl ?_ ?_
  ·
   intro c0
   refine oS fun _ hK4=>?_
   refine oW T_l11Text_ok ?_
   simp only[go_sem]
   refine hK4 _ ?_
   refine AWP_ret ?_
   simp only[hres,go_sem]
   first|exact oF|(refine⟨?_,oF⟩;rw[textG_no (by assumption)])
  intro c0
  have c0:progB (gi,gr,ts,xs,os)=true:=by assumption
  refine AWP_skip ?_
  simp only[go_sem]
  refine hK2 _ ?_
  refine oS fun _ hK5=>?_
  refine oW T_l11Text_ok ?_
  simp only[go_sem]
  refine hK5 _ ?_
  refine oS fun _ hK6=>?_
  refine oS fun _ hK7=>?_
  refine oW T_l11Text_ok ?_
  simp only[go_sem]
  refine hK7 _ ?_
  refine AWP_block ?_
  refine AWP_loop_k (ι:={ k:Nat // k≤xs.length }) (fun k=>⟨[zz,.c (.po 116 0),zz,.c (.sc (.string (bs (textsX (xs.take k.1))))),.c (.sc (.int .i64 (k.1))),zz,zz,zz,zz,zz,zz,zz,zz,zz,zz,zz,zz,zz,zz,zz,zz,zz,zz],[(116,.box [.sc (.int .i64 (gi)),.sc (.int .i64 (gr)),.rd [] 24 ((.row 2 (.int .i64))) ts,.rd [] 43 ((.prod (.int .i64) (.prod (.int .i64) (.prod (.int .i64) (.prod (.int .i64) (.prod (.row 2 (.int .i64)) (.int .i64))))))) xs,.rd [] 2 (.int .i64) (os)])]⟩) (fun k=>xs.length - k.1) ⟨0,by simp⟩ ?_ ?_
  ·
   refine oK ?_
   simp (maxSteps:=2000000)only[go_sem]
   all_goals((repeat' refine And.intro ?_ ?_)<;>first|rfl|(congr 1;done)|(simp[textsX];done))
  rintro⟨k,hk⟩ K8 hL8
  have htl:(textsX (xs.take k)).length≤7728:=prog_text_len c0 k
  have hx0':k < xs.length→txX (xs.getD k ((0,0,0,0,[],0):InstrD))∧(textX (xs.getD k ((0,0,0,0,[],0):InstrD))).length≤160:=fun h=>by have:=prog_tx c0 _ (getD_mem (d:=((0,0,0,0,[],0):InstrD)) h);exact⟨this,textX_len this⟩
  have hnx0:k < xs.length→textsX (xs.take (k+1))=textsX (xs.take k)++(textX (xs.getD k ((0,0,0,0,[],0):InstrD))++[10]):=fun h=>textsX_next h
  refine oS fun _ hK9=>?_
  refine oS fun _ hK10=>?_
  refine oW T_l11Text_ok ?_
  simp (maxSteps:=2000000)only[go_sem]
  repeat(with_reducible refine oA ?_)
  refine hK10 _ ?_
  refine oC rfl ?_ ?_
  ·
   intro c1
   obtain⟨hx,hxl⟩:=hx0' (by omega)
   have hnx:=hnx0 (by omega)
   have hxe:((xs.getD k ((0,0,0,0,[],0):InstrD)).1,(xs.getD k ((0,0,0,0,[],0):InstrD)).2.1,(xs.getD k ((0,0,0,0,[],0):InstrD)).2.2.1,(xs.getD k ((0,0,0,0,[],0):InstrD)).2.2.2.1,(xs.getD k ((0,0,0,0,[],0):InstrD)).2.2.2.2.1,(xs.getD k ((0,0,0,0,[],0):InstrD)).2.2.2.2.2)=(xs.getD k ((0,0,0,0,[],0):InstrD)):=rfl
   refine AWP_skip ?_
   simp only[go_sem]
   refine hK9 _ ?_
   refine oS fun _ hK11=>?_
   refine AWP_block ?_
   refine oW T_l11Text_ok ?_
   simp (maxSteps:=2000000)only[List.length_append,List.length_cons,List.length_nil,hxe,go_sem]
   repeat(with_reducible first|refine oA ?_|refine And.intro (by first|exact hx|omega) ?_)
   refine hK11 _ ?_
   refine oW T_l11Text_ok ?_
   simp only[go_sem]
   refine hL8 ⟨k+1,by omega⟩ _ (oK ?_) ?_
   ·
    simp (maxSteps:=2000000)only[go_sem]
    all_goals((repeat' refine And.intro ?_ ?_)<;>first|rfl|exact wk (by omega)|(rw[hnx];done)|(congr 1;rw[hnx];done)|(congr 1;exact hnx.symm)|exact hnx.symm)
   ·
    first|(simp only[];omega)|omega|(simp;omega)
  intro c1
  refine AWP_exit ?_
  simp only[go_sem]
  refine hK6 _ ?_
  refine oS fun _ hK12=>?_
  refine oW T_l11Text_ok ?_
  simp only[go_sem]
  refine hK12 _ ?_
  refine AWP_ret ?_
  simp only[hres,go_sem]
  first
   | exact oF
   | refine ⟨?_, oF⟩
     rw[textG_ok c0]
     have hk3:xs.take k=xs:=List.take_of_length_le (by omega)
     rw[hk3]
def T_specPT:Tab:=fun f=>if f=5 then some (.p K_specPT) else T_l11Text f
theorem T_specPT_ok:TabOk Tryd.prog T_specPT:=tabP specPT_ok (fnOk_of Tryd.func5 rfl (by decide)) T_l11Text_ok
attribute [go_sem] T_specPT K_specPT
end Go.Proofs.YtenjbehedcegdaaDoor
