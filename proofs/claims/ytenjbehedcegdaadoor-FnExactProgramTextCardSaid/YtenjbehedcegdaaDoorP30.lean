/-
  Texts of this claim, joined (part 30). No condition beyond those of the theorems.
-/
import Derived.Test.YtenjbehedcegdaaDoorP24
import Derived.Test.YtenjbehedcegdaaDoorP29
namespace Go.Proofs.YtenjbehedcegdaaDoor
open Go.RowKit
set_option linter.unusedSimpArgs false
set_option linter.unusedVariables false
set_option maxRecDepth 100000
set_option maxHeartbeats 8000000
def T_mHtA0:Tab:=fun f=>match T_decimal f with
 | some k=>some k
 | none=>T_isProg f
theorem T_mHtA0_ok:TabOk Tryd.prog T_mHtA0:=tabM T_decimal_ok T_isProg_ok
attribute [go_sem] T_mHtA0 T0
def K_strJoin:Con:=⟨[.val ((.row 9 (.str))),.val (.str)],[⟨.str,true⟩],fun x=>x.1.length≤1000∧(joinS x.1 x.2.1).length≤1000000,fun x=>bs (joinS x.1 x.2.1)⟩
theorem strJoin_ok:PureT Tryd.prog 56 K_strJoin:=by
  refine pure_lift fun ⟨(W:List ByteArray),(c:ByteArray),_⟩ hc R w vs hv=>?_
  obtain⟨h1,h2⟩:=(show W.length≤1000∧(joinS W c).length≤1000000 from hc)
  obtain⟨u,us,e,hr,hv⟩:=vrt_rd hv
  obtain⟨us2,e2,hv⟩:=vrt_sc hv
  have e3:=vrt_nil hv
  subst e3 e2
  have e4:=arr_of e
  subst e4
  exact(join_w W c hr h1 h2).mono fun _ _ ⟨he,hk⟩=>⟨_,he,vr_sc _,obsOk_nil _ _,hk⟩
def T_strJoin:Tab:=fun f=>if f=56 then some (.p K_strJoin) else T_mHtA0 f
theorem T_strJoin_ok:TabOk Tryd.prog T_strJoin:=tabP strJoin_ok (fnOk_of Tryd.func56 rfl (by decide)) T_mHtA0_ok
attribute [go_sem] T_strJoin K_strJoin
def K_numsText:Con:=⟨[.val ((.row 2 (.int .i64)))],[⟨.str,true⟩],fun x=>x.1.length≤1000∧x.1.all i64B=true,fun x=>bs (numsT x.1)⟩
theorem numsText_ok:PureT Tryd.prog 55 K_numsText:=by
  refine pure_of_body Tryd.func55 rfl ?_
  have hres:Tryd.f55.results.toList=[.tmp 2]:=rfl
  rintro⟨(xs:List Int),_⟩ hc hL
  simp only[K_numsText,go_sem] at hL
  simp only[K_numsText,St.init,St.initG,Tryd.ntmps55,go_sem] 
  obtain⟨hl,ha⟩:=(show xs.length≤1000∧xs.all i64B=true from hc)
  refine oS fun _ hK1=>?_
  refine oW T_strJoin_ok ?_
  simp only[go_sem]
  refine hK1 _ ?_
  refine oS fun _ hK2=>?_
  refine oW T_strJoin_ok ?_
  simp only[go_sem]
  repeat(with_reducible refine oA ?_)
  refine hK2 _ ?_
  refine oS fun _ hK3=>?_
  refine oS fun _ hK4=>?_
  refine oW T_strJoin_ok ?_
  simp only[go_sem]
  refine hK4 _ ?_
  refine AWP_block ?_
  refine AWP_loop_k (ι:={ k:Nat // k≤xs.length }) (fun k=>⟨[zz,zz,zz,.c (.ow 9001),zz,zz,zz,.c (.rd [] 2 (.int .i64) (xs)),.c (.sc (.int .i64 (xs.length))),.c (.sc (.int .i64 (k.1))),zz,zz,zz,zz,zz,zz,zz,zz,zz,zz,zz],[(9001,.row 9 (.str) (((xs.take k.1).map Lib.itoa).map bs) [])]⟩) (fun k=>xs.length - k.1) ⟨0,by simp⟩ ?_ ?_
  ·
   refine oK ?_
   simp (maxSteps:=2000000)only[go_sem]
   all_goals((repeat' refine And.intro ?_ ?_)<;>first|rfl|(congr 1;done)|(simp;done))
  rintro⟨k,hk⟩ K5 hL5
  have hi:k < xs.length→(-9223372036854775808≤(xs.getD k 0)∧(xs.getD k 0)≤9223372036854775807)∧(Lib.itoa (xs.getD k 0)).length≤21:=fun h=>nums_at ha h
  have htl:=numsT_take_len hl ha k
  have hml:(((xs.take k).map Lib.itoa).map bs).length=k:=by rw[List.length_map,List.length_map,List.length_take];omega
  have hnx0:k < xs.length→((xs.take k).map Lib.itoa).map bs++[bs (Lib.itoa (xs.getD k 0))]=((xs.take (k+1)).map Lib.itoa).map bs:=fun h=>words_next h
  refine oS fun _ hK6=>?_
  refine oW T_strJoin_ok ?_
  simp only[go_sem]
  refine hK6 _ ?_
  refine oS fun _ hK7=>?_
  refine oC rfl ?_ ?_
  ·
   intro c0
   obtain⟨hd1,hd2⟩:=hi (by omega)
   have hnx:=hnx0 (by omega)
   refine AWP_skip ?_
   simp only[go_sem]
   refine hK7 _ ?_
   refine oS fun _ hK8=>?_
   refine AWP_block ?_
   refine oS fun _ hK9=>?_
   refine oW T_strJoin_ok ?_
   simp only[go_sem]
   repeat(with_reducible refine oA ?_)
   refine hK9 _ ?_
   refine oW T_strJoin_ok ?_
   simp (maxSteps:=2000000)only[hml,go_sem]
   repeat(with_reducible first|refine oA ?_|refine And.intro (by first|exact hd1|omega) ?_)
   refine hK8 _ ?_
   refine oW T_strJoin_ok ?_
   simp only[go_sem]
   refine hL5 ⟨k+1,by omega⟩ _ (oK ?_) ?_
   ·
    simp (maxSteps:=2000000)only[go_sem]
    all_goals((repeat' refine And.intro ?_ ?_)<;>first|rfl|exact wk (by omega)|(congr 1;exact hnx)|exact hnx)
   ·
    first|(simp only[];omega)|omega|(simp;omega)
  intro c0
  have hk3:xs.take k=xs:=List.take_of_length_le (by omega)
  have hj:=joinS_nums hl ha
  refine AWP_exit ?_
  simp only[go_sem]
  refine hK3 _ ?_
  refine oS fun _ hK10=>?_
  refine oW T_strJoin_ok ?_
  simp only[hk3,go_sem]
  repeat(with_reducible first|refine oA ?_|refine And.intro (by first|exact hj) ?_)
  refine hK10 _ ?_
  refine AWP_ret ?_
  simp only[hres,go_sem]
  first|exact oF|(refine⟨?_,oF⟩;rw[joinS_bs];rfl)
def T_numsText:Tab:=fun f=>if f=55 then some (.p K_numsText) else T_strJoin f
theorem T_numsText_ok:TabOk Tryd.prog T_numsText:=tabP numsText_ok (fnOk_of Tryd.func55 rfl (by decide)) T_strJoin_ok
attribute [go_sem] T_numsText K_numsText
def K_nodeText:Con:=⟨[.val ((.prod (.int .i64) (.prod (.int .i64) (.prod (.int .i64) (.row 2 (.int .i64))))))],[⟨.str,true⟩],fun x=>txOk x.1,fun x=>bs (nodeT x.1)⟩
theorem nodeText_ok:PureT Tryd.prog 40 K_nodeText:=by
  refine pure_of_body Tryd.func40 rfl ?_
  have hres:Tryd.f40.results.toList=[.tmp 2]:=rfl
  rintro⟨⟨(kd:Int),(a:Int),(bb:Int),(fr:List Int)⟩,_⟩ hc hL
  simp only[K_nodeText,go_sem] at hL
  simp only[K_nodeText,St.init,St.initG,Tryd.ntmps40,go_sem] 
  have hT:txOk (kd,a,bb,fr):=hc
  obtain⟨hk0,ha0,hb0,hf3,hfa⟩:=id hT
  simp only at hk0 ha0 hb0 hf3 hfa
  obtain⟨hk1,hk2⟩:=inR_iff.1 hk0
  have hda:=i64_iff ha0
  have hdb:=i64_iff hb0
  have hla:=itoa_len20 hda.1 hda.2
  have hlb:=itoa_len20 hdb.1 hdb.2
  have hfn:=numsT_len hfa
  have hnk:=nameK_len kd
  have hfc:fr.length≤1000∧fr.all i64B=true:=⟨by omega,hfa⟩
  refine oS fun _ hK1=>?_
  refine oW T_numsText_ok ?_
  simp only[go_sem]
  refine hK1 _ ?_
  refine oS fun _ hK2=>?_
  have hk:=kindsL_at hk0
  have hkk:=hk.1
  have hkl:kindsL.length=17:=rfl
  have hw:IntKind.i64.wrap (kd - 1)=kd - 1:=wrapI (by omega)
  have hkn:=nameK_L hk0
  have hkk2:(kindsL.getD (kd - 1).toNat (bs [],0,0,0,false,false)).2=kT kd:=hkk
  have hkn2:(kindsL.getD (kd - 1).toNat (bs [],0,0,0,false,false)).1=bs (nameK kd):=hkn
  refine oR T_numsText_ok
    [[],[],[1],[1,2],[0,1,2,3],[0,1,2,3,4],[],[0,1,2,3,4,5,6]]
    [[148],[148,180,181,182,183,184,185,186,187,188,189,190,191,192,193,194,195],[148,180,181,182,183,184,185,186,187,188,189,190,191,192,193,194,195],[148,180,181,182,183,184,185,186,187,188,189,190,191,192,193,194,195],[148],[148],[180,181,182,183,184,185,186,187,188,189,190,191,192,193,194,195],[]]
    [[180,181,182,183,184,185,186,187,188,189,190,191,192,193,194,195],[],[],[],[],[],[148],[]] (by kernel_rfl) (by kernel_rfl) (adrawR_ok (acc:=[]) ?_)
  simp (maxSteps:=2000000)only[hw,hkk,hkn,hkk2,hkn2,go_sem]
  repeat(with_reducible first|refine oD ?_|refine And.intro (by first|exact⟨by omega,by omega⟩|omega) ?_)
  refine hK2 _ ?_
  refine oS fun _ hK3=>?_
  refine oW T_numsText_ok ?_
  simp only[List.nodup_cons,List.nodup_nil,List.not_mem_nil,not_false_eq_true,hkn,hkn2,go_sem]
  repeat(with_reducible refine oA ?_)
  refine hK3 _ ?_
  refine oS fun _ hK4=>?_
  refine oS fun _ hK5=>?_
  refine oW T_numsText_ok ?_
  simp only[go_sem]
  repeat(with_reducible refine oA ?_)
  refine hK5 _ ?_
  refine oC rfl ?_ ?_
  ·
   intro c0
   have q1:aB kd=true:=decide_eq_true c0
   refine oW T_numsText_ok ?_
   simp (maxSteps:=2000000)only[go_sem]
   repeat(with_reducible first|refine oA ?_|refine And.intro (by first|exact hda|omega) ?_)
   refine hK4 _ ?_
   refine oS fun _ hK6=>?_
   refine oS fun _ hK7=>?_
   refine oW T_numsText_ok ?_
   simp only[go_sem]
   repeat(with_reducible refine oA ?_)
   refine hK7 _ ?_
   refine oC rfl ?_ ?_
   ·
    intro c1
    have q2:decide (kd=17)=true:=(bB_17 hk0).symm.trans c1
    refine oW T_numsText_ok ?_
    simp (maxSteps:=2000000)only[go_sem]
    repeat(with_reducible first|refine oA ?_|refine And.intro (by first|exact hdb|omega) ?_)
    refine hK6 _ ?_
    refine oS fun _ hK8=>?_
    refine oS fun _ hK9=>?_
    refine oW T_numsText_ok ?_
    simp only[go_sem]
    repeat(with_reducible refine oA ?_)
    refine hK9 _ ?_
    refine oC rfl ?_ ?_
    ·
     intro c2
     have q3:decide (0 < fr.length)=true:=decide_eq_true (by omega)
     refine oW T_numsText_ok ?_
     simp (maxSteps:=2000000)only[go_sem]
     repeat(with_reducible first|refine oA ?_|refine And.intro (by first|exact hfc|omega) ?_)
     refine hK8 _ ?_
     refine oS fun _ hK10=>?_
     refine oW T_numsText_ok ?_
     simp only[go_sem]
     repeat(with_reducible first|refine oA ?_|refine And.intro (by first|with_unfolding_all exact words_ok (n:=(kd,a,bb,fr)) q1 q2 q3 hT|with_unfolding_all exact(words_ok (n:=(kd,a,bb,fr)) q1 q2 q3 hT).2) ?_)
     refine hK10 _ ?_
     refine AWP_ret ?_
     simp only[hres,go_sem]
     first|exact oF|(refine⟨?_,oF⟩;exact congrArg bs (joinW (n:=(kd,a,bb,fr)) q1 q2 q3))
    intro c2
    have q3:decide (0 < fr.length)=false:=decide_eq_false (by omega)
    refine AWP_skip ?_
    simp only[go_sem]
    refine hK8 _ ?_
    refine oS fun _ hK11=>?_
    refine oW T_numsText_ok ?_
    simp only[go_sem]
    repeat(with_reducible first|refine oA ?_|refine And.intro (by first|with_unfolding_all exact words_ok (n:=(kd,a,bb,fr)) q1 q2 q3 hT|with_unfolding_all exact(words_ok (n:=(kd,a,bb,fr)) q1 q2 q3 hT).2) ?_)
    refine hK11 _ ?_
    refine AWP_ret ?_
    simp only[hres,go_sem]
    first|exact oF|(refine⟨?_,oF⟩;exact congrArg bs (joinW (n:=(kd,a,bb,fr)) q1 q2 q3))
   intro c1
   have q2:decide (kd=17)=false:=(bB_17 hk0).symm.trans c1
   refine AWP_skip ?_
   simp only[go_sem]
   refine hK6 _ ?_
   refine oS fun _ hK12=>?_
   refine oS fun _ hK13=>?_
   refine oW T_numsText_ok ?_
   simp only[go_sem]
   repeat(with_reducible refine oA ?_)
   refine hK13 _ ?_
   refine oC rfl ?_ ?_
   ·
    intro c2
    have q3:decide (0 < fr.length)=true:=decide_eq_true (by omega)
    refine oW T_numsText_ok ?_
    simp (maxSteps:=2000000)only[go_sem]
    repeat(with_reducible first|refine oA ?_|refine And.intro (by first|exact hfc|omega) ?_)
    refine hK12 _ ?_
    refine oS fun _ hK14=>?_
    refine oW T_numsText_ok ?_
    simp only[go_sem]
    repeat(with_reducible first|refine oA ?_|refine And.intro (by first|with_unfolding_all exact words_ok (n:=(kd,a,bb,fr)) q1 q2 q3 hT|with_unfolding_all exact(words_ok (n:=(kd,a,bb,fr)) q1 q2 q3 hT).2) ?_)
    refine hK14 _ ?_
    refine AWP_ret ?_
    simp only[hres,go_sem]
    first|exact oF|(refine⟨?_,oF⟩;exact congrArg bs (joinW (n:=(kd,a,bb,fr)) q1 q2 q3))
   intro c2
   have q3:decide (0 < fr.length)=false:=decide_eq_false (by omega)
   refine AWP_skip ?_
   simp only[go_sem]
   refine hK12 _ ?_
   refine oS fun _ hK15=>?_
   refine oW T_numsText_ok ?_
   simp only[go_sem]
   repeat(with_reducible first|refine oA ?_|refine And.intro (by first|with_unfolding_all exact words_ok (n:=(kd,a,bb,fr)) q1 q2 q3 hT|with_unfolding_all exact(words_ok (n:=(kd,a,bb,fr)) q1 q2 q3 hT).2) ?_)
   refine hK15 _ ?_
   refine AWP_ret ?_
   simp only[hres,go_sem]
   first|exact oF|(refine⟨?_,oF⟩;exact congrArg bs (joinW (n:=(kd,a,bb,fr)) q1 q2 q3))
  intro c0
  have q1:aB kd=false:=decide_eq_false (by omega)
  refine AWP_skip ?_
  simp only[go_sem]
  refine hK4 _ ?_
  refine oS fun _ hK16=>?_
  refine oS fun _ hK17=>?_
  refine oW T_numsText_ok ?_
  simp only[go_sem]
  repeat(with_reducible refine oA ?_)
  refine hK17 _ ?_
  refine oC rfl ?_ ?_
  ·
   intro c1
   have q2:decide (kd=17)=true:=(bB_17 hk0).symm.trans c1
   refine oW T_numsText_ok ?_
   simp (maxSteps:=2000000)only[go_sem]
   repeat(with_reducible first|refine oA ?_|refine And.intro (by first|exact hdb|omega) ?_)
   refine hK16 _ ?_
   refine oS fun _ hK18=>?_
   refine oS fun _ hK19=>?_
   refine oW T_numsText_ok ?_
   simp only[go_sem]
   repeat(with_reducible refine oA ?_)
   refine hK19 _ ?_
   refine oC rfl ?_ ?_
   ·
    intro c2
    have q3:decide (0 < fr.length)=true:=decide_eq_true (by omega)
    refine oW T_numsText_ok ?_
    simp (maxSteps:=2000000)only[go_sem]
    repeat(with_reducible first|refine oA ?_|refine And.intro (by first|exact hfc|omega) ?_)
    refine hK18 _ ?_
    refine oS fun _ hK20=>?_
    refine oW T_numsText_ok ?_
    simp only[go_sem]
    repeat(with_reducible first|refine oA ?_|refine And.intro (by first|with_unfolding_all exact words_ok (n:=(kd,a,bb,fr)) q1 q2 q3 hT|with_unfolding_all exact(words_ok (n:=(kd,a,bb,fr)) q1 q2 q3 hT).2) ?_)
    refine hK20 _ ?_
    refine AWP_ret ?_
    simp only[hres,go_sem]
    first|exact oF|(refine⟨?_,oF⟩;exact congrArg bs (joinW (n:=(kd,a,bb,fr)) q1 q2 q3))
   intro c2
   have q3:decide (0 < fr.length)=false:=decide_eq_false (by omega)
   refine AWP_skip ?_
   simp only[go_sem]
   refine hK18 _ ?_
   refine oS fun _ hK21=>?_
   refine oW T_numsText_ok ?_
   simp only[go_sem]
   repeat(with_reducible first|refine oA ?_|refine And.intro (by first|with_unfolding_all exact words_ok (n:=(kd,a,bb,fr)) q1 q2 q3 hT|with_unfolding_all exact(words_ok (n:=(kd,a,bb,fr)) q1 q2 q3 hT).2) ?_)
   refine hK21 _ ?_
   refine AWP_ret ?_
   simp only[hres,go_sem]
   first|exact oF|(refine⟨?_,oF⟩;exact congrArg bs (joinW (n:=(kd,a,bb,fr)) q1 q2 q3))
  intro c1
  have q2:decide (kd=17)=false:=(bB_17 hk0).symm.trans c1
  refine AWP_skip ?_
  simp only[go_sem]
  refine hK16 _ ?_
  refine oS fun _ hK22=>?_
  refine oS fun _ hK23=>?_
  refine oW T_numsText_ok ?_
  simp only[go_sem]
  repeat(with_reducible refine oA ?_)
  refine hK23 _ ?_
  refine oC rfl ?_ ?_
  ·
   intro c2
   have q3:decide (0 < fr.length)=true:=decide_eq_true (by omega)
   refine oW T_numsText_ok ?_
   simp (maxSteps:=2000000)only[go_sem]
   repeat(with_reducible first|refine oA ?_|refine And.intro (by first|exact hfc|omega) ?_)
   refine hK22 _ ?_
   refine oS fun _ hK24=>?_
   refine oW T_numsText_ok ?_
   simp only[go_sem]
   repeat(with_reducible first|refine oA ?_|refine And.intro (by first|with_unfolding_all exact words_ok (n:=(kd,a,bb,fr)) q1 q2 q3 hT|with_unfolding_all exact(words_ok (n:=(kd,a,bb,fr)) q1 q2 q3 hT).2) ?_)
   refine hK24 _ ?_
   refine AWP_ret ?_
   simp only[hres,go_sem]
   first|exact oF|(refine⟨?_,oF⟩;exact congrArg bs (joinW (n:=(kd,a,bb,fr)) q1 q2 q3))
  intro c2
  have q3:decide (0 < fr.length)=false:=decide_eq_false (by omega)
  refine AWP_skip ?_
  simp only[go_sem]
  refine hK22 _ ?_
  refine oS fun _ hK25=>?_
  refine oW T_numsText_ok ?_
  simp only[go_sem]
  repeat(with_reducible first|refine oA ?_|refine And.intro (by first|with_unfolding_all exact words_ok (n:=(kd,a,bb,fr)) q1 q2 q3 hT|with_unfolding_all exact(words_ok (n:=(kd,a,bb,fr)) q1 q2 q3 hT).2) ?_)
  refine hK25 _ ?_
  refine AWP_ret ?_
  simp only[hres,go_sem]
  first|exact oF|(refine⟨?_,oF⟩;exact congrArg bs (joinW (n:=(kd,a,bb,fr)) q1 q2 q3))
def T_nodeText:Tab:=fun f=>if f=40 then some (.p K_nodeText) else T_numsText f
theorem T_nodeText_ok:TabOk Tryd.prog T_nodeText:=tabP nodeText_ok (fnOk_of Tryd.func40 rfl (by decide)) T_numsText_ok
attribute [go_sem] T_nodeText K_nodeText
def K_instrText:Con:=⟨[.val ((.prod (.int .i64) (.prod (.int .i64) (.prod (.int .i64) (.prod (.int .i64) (.prod (.row 2 (.int .i64)) (.int .i64)))))))],[⟨.str,true⟩],fun x=>txX x.1,fun x=>bs (textX x.1)⟩
theorem instrText_ok:PureT Tryd.prog 18 K_instrText:=by
  refine pure_of_body Tryd.func18 rfl ?_
  have hres:Tryd.f18.results.toList=[.tmp 2]:=rfl
  rintro⟨⟨(kd:Int),(a:Int),(bb:Int),(nd:Int),(fr:List Int),(tt:Int)⟩,_⟩ hc hL
  simp only[K_instrText,go_sem] at hL
  simp only[K_instrText,St.init,St.initG,Tryd.ntmps18,go_sem] 
  have hT:txX (kd,a,bb,nd,fr,tt):=hc
  obtain⟨hn0,hs0,ht0⟩:=id hT
  simp only at hn0 hs0 ht0
  have hdn:-9223372036854775808≤nd∧nd≤9223372036854775807:=i64_iff hn0
  have hln:=itoa_len20 hdn.1 hdn.2
  refine oS fun _ hK1=>?_
  refine oW T_nodeText_ok ?_
  simp only[go_sem]
  refine hK1 _ ?_
  refine oS fun _ hK2=>?_
  refine oS fun _ hK3=>?_
  refine oW T_nodeText_ok ?_
  simp only[go_sem]
  repeat(with_reducible refine oA ?_)
  refine hK3 _ ?_
  refine oC rfl ?_ ?_
  ·
   intro c0
   have h18:kd=18:=by first|assumption|omega
   obtain⟨hf1,hf2⟩:=hs0 h18
   have hf1:fr.length=1:=hf1
   have hdf:-9223372036854775808≤fr.getD 0 0∧fr.getD 0 0≤9223372036854775807:=i64_iff hf2
   have hlf:=itoa_len20 hdf.1 hdf.2
   refine oS fun _ hK4=>?_
   refine oR T_nodeText_ok
     [[],[0],[0,1],[0,1,2],[0,1,2,3],[],[5],[5,6],[5,6,7],[0,1,2,5,6,7,8],[0,1,2,3,4,5,6,7,8,9],[0,1,2,3,4,5,6,7,8,9,10]]
     [[],[],[],[],[],[],[],[],[],[],[],[]]
     [[],[],[],[],[],[],[],[],[],[],[],[]] (by kernel_rfl) (by kernel_rfl) (adrawR_ok (acc:=[]) ?_)
   simp (maxSteps:=2000000)only[List.length_append,List.length_cons,List.length_nil,go_sem]
   repeat(with_reducible first|refine oD ?_|refine And.intro (by first|exact hdn|exact hdf|exact hdt|exact htx|exact⟨by omega,by omega⟩|omega) ?_)
   refine hK4 _ ?_
   refine AWP_ret ?_
   simp only[hres,go_sem]
   first
    | exact oF
    | refine ⟨?_, oF⟩
      rw[textX_t (x:=(kd,a,bb,nd,fr,tt)) h18]
      first|rfl|(simp only[List.append_assoc,List.cons_append,List.nil_append,List.append_nil,nodeX];done)
  intro c0
  have h18:¬kd=18:=by first|assumption|omega
  obtain⟨ht1,ht2⟩:=ht0 h18
  have hdt:-9223372036854775808≤tt∧tt≤9223372036854775807:=i64_iff ht1
  have hlt:=itoa_len20 hdt.1 hdt.2
  have hnt:=nodeT_len ht2
  have htx:txOk (kd,a,bb,fr):=ht2
  have hnt:(nodeT (kd,a,bb,fr)).length≤130:=hnt
  refine AWP_skip ?_
  simp only[go_sem]
  refine hK2 _ ?_
  refine oS fun _ hK5=>?_
  refine oR T_nodeText_ok
    [[],[0],[0,1],[0,1,2],[0,1,2,3],[],[0,1,2,5],[0,1,2,5,6],[0,1,2,3,4,5,6,7],[0,1,2,3,4,5,6,7,8]]
    [[],[],[],[468,469,470,471,472,473,474,475,476,477,478,479,480,481,482,483],[468,469,470,471,472,473,474,475,476,477,478,479,480,481,482,483],[],[],[],[],[]]
    [[],[],[],[],[],[],[468,469,470,471,472,473,474,475,476,477,478,479,480,481,482,483],[],[],[]] (by kernel_rfl) (by kernel_rfl) (adrawR_ok (acc:=[]) ?_)
  simp (maxSteps:=2000000)only[List.length_append,List.length_cons,List.length_nil,nodeX,xF,go_sem]
  repeat(with_reducible first|refine oD ?_|refine And.intro (by first|exact hdn|exact hdf|exact hdt|exact htx|exact⟨by omega,by omega⟩|omega) ?_)
  refine hK5 _ ?_
  refine AWP_ret ?_
  simp only[hres,go_sem]
  first
   | exact oF
   | refine ⟨?_, oF⟩
     rw[textX_f (x:=(kd,a,bb,nd,fr,tt)) h18]
     first|rfl|(simp only[List.append_assoc,List.cons_append,List.nil_append,List.append_nil,nodeX];done)
def T_instrText:Tab:=fun f=>if f=18 then some (.p K_instrText) else T_nodeText f
theorem T_instrText_ok:TabOk Tryd.prog T_instrText:=tabP instrText_ok (fnOk_of Tryd.func18 rfl (by decide)) T_nodeText_ok
attribute [go_sem] T_instrText K_instrText
def K_implPT:Con:=⟨[.val ((.prod (.int .i64) (.prod (.int .i64) (.prod (.row 24 (.row 2 (.int .i64))) (.prod (.row 43 (.prod (.int .i64) (.prod (.int .i64) (.prod (.int .i64) (.prod (.int .i64) (.prod (.row 2 (.int .i64)) (.int .i64))))))) (.row 2 (.int .i64)))))))],[⟨.str,true⟩],fun _=>True,fun x=>bs (textG x.1)⟩
theorem implPT_ok:PureT Tryd.prog 7 K_implPT:=by
  refine pure_of_body Tryd.func7 rfl ?_
  have hres:Tryd.f7.results.toList=[.tmp 2]:=rfl
  rintro⟨⟨(gi:Int),(gr:Int),(ts:List (List Int)),(xs:List InstrD),(os:List Int)⟩,_⟩ hc hL
  simp only[K_implPT,go_sem] at hL
  simp only[K_implPT,St.init,St.initG,Tryd.ntmps7,go_sem] 
  have hx0:x0=((0,0,0,0,[],0):InstrD):=rfl
  refine oS fun _ hK1=>?_
  refine oW T_instrText_ok ?_
  simp only[go_sem]
  refine hK1 _ ?_
  refine oS fun _ hK2=>?_
  refine oS fun _ hK3=>?_
  refine oW T_instrText_ok ?_
  simp only[go_sem]
  repeat(with_reducible refine oA ?_)
  refine hK3 _ ?_
  refine oC rfl ?_ ?_
  ·
   intro c0
   refine oS fun _ hK4=>?_
   refine oW T_instrText_ok ?_
   simp only[go_sem]
   refine hK4 _ ?_
   refine AWP_ret ?_
   simp only[hres,go_sem]
   first|exact oF|(refine⟨?_,oF⟩;rw[textG_no (by assumption)])
  intro c0
  have c0:progB (gi,gr,ts,xs,os)=true:=by assumption
  refine AWP_skip ?_
  simp only[go_sem]
  refine hK2 _ ?_
  refine oS fun _ hK5=>?_
  refine oW T_instrText_ok ?_
  simp only[go_sem]
  refine hK5 _ ?_
  refine oS fun _ hK6=>?_
  refine oS fun _ hK7=>?_
  refine oW T_instrText_ok ?_
  simp only[go_sem]
  repeat(with_reducible refine oA ?_)
  refine hK7 _ ?_
  refine AWP_block ?_
  refine AWP_loop_k (ι:={ k:Nat // k≤xs.length }) (fun k=>⟨[zz,zz,zz,.c (.sc (.string (bs (textsX (xs.take k.1))))),zz,zz,zz,zz,zz,zz,.c (.rd [] 43 ((.prod (.int .i64) (.prod (.int .i64) (.prod (.int .i64) (.prod (.int .i64) (.prod (.row 2 (.int .i64)) (.int .i64))))))) (xs)),.c (.sc (.int .i64 (xs.length))),.c (.sc (.int .i64 (k.1))),zz,zz,zz,zz,zz,zz,zz,zz,zz,zz],[]⟩) (fun k=>xs.length - k.1) ⟨0,by simp⟩ ?_ ?_
  ·
   refine oK ?_
   simp (maxSteps:=2000000)only[go_sem]
   all_goals((repeat' refine And.intro ?_ ?_)<;>first|rfl|(congr 1;done)|(simp[textsX];done))
  rintro⟨k,hk⟩ K8 hL8
  have htl:(textsX (xs.take k)).length≤7728:=prog_text_len c0 k
  have hx0':k < xs.length→txX (xs.getD k ((0,0,0,0,[],0):InstrD))∧(textX (xs.getD k ((0,0,0,0,[],0):InstrD))).length≤160:=fun h=>by have:=prog_tx c0 _ (getD_mem (d:=((0,0,0,0,[],0):InstrD)) h);exact⟨this,textX_len this⟩
  have hnx0:k < xs.length→textsX (xs.take (k+1))=textsX (xs.take k)++(textX (xs.getD k ((0,0,0,0,[],0):InstrD))++[10]):=fun h=>textsX_next h
  refine oS fun _ hK9=>?_
  refine oW T_instrText_ok ?_
  simp only[go_sem]
  refine hK9 _ ?_
  refine oS fun _ hK10=>?_
  refine oC rfl ?_ ?_
  ·
   intro c1
   obtain⟨hx,hxl⟩:=hx0' (by omega)
   have hnx:=hnx0 (by omega)
   have hxe:((xs.getD k ((0,0,0,0,[],0):InstrD)).1,(xs.getD k ((0,0,0,0,[],0):InstrD)).2.1,(xs.getD k ((0,0,0,0,[],0):InstrD)).2.2.1,(xs.getD k ((0,0,0,0,[],0):InstrD)).2.2.2.1,(xs.getD k ((0,0,0,0,[],0):InstrD)).2.2.2.2.1,(xs.getD k ((0,0,0,0,[],0):InstrD)).2.2.2.2.2)=(xs.getD k ((0,0,0,0,[],0):InstrD)):=rfl
   refine AWP_skip ?_
   simp only[go_sem]
   refine hK10 _ ?_
   refine oS fun _ hK11=>?_
   refine AWP_block ?_
   refine oS fun _ hK12=>?_
   refine oW T_instrText_ok ?_
   simp only[go_sem]
   repeat(with_reducible refine oA ?_)
   refine hK12 _ ?_
   refine oW T_instrText_ok ?_
   simp (maxSteps:=2000000)only[List.length_append,List.length_cons,List.length_nil,hxe,go_sem]
   repeat(with_reducible first|refine oA ?_|refine And.intro (by first|exact hx|omega) ?_)
   refine hK11 _ ?_
   refine oW T_instrText_ok ?_
   simp only[go_sem]
   refine hL8 ⟨k+1,by omega⟩ _ (oK ?_) ?_
   ·
    simp (maxSteps:=2000000)only[go_sem]
    all_goals((repeat' refine And.intro ?_ ?_)<;>first|rfl|exact wk (by omega)|(rw[hnx];done)|(congr 1;rw[hnx];done)|(congr 1;exact hnx.symm)|exact hnx.symm)
   ·
    first|(simp only[];omega)|omega|(simp;omega)
  intro c1
  refine AWP_exit ?_
  simp only[go_sem]
  refine hK6 _ ?_
  refine oS fun _ hK13=>?_
  refine oW T_instrText_ok ?_
  simp only[go_sem]
  refine hK13 _ ?_
  refine AWP_ret ?_
  simp only[hres,go_sem]
  first
   | exact oF
   | refine ⟨?_, oF⟩
     rw[textG_ok c0]
     have hk3:xs.take k=xs:=List.take_of_length_le (by omega)
     rw[hk3]
def T_implPT:Tab:=fun f=>if f=7 then some (.p K_implPT) else T_instrText f
theorem T_implPT_ok:TabOk Tryd.prog T_implPT:=tabP implPT_ok (fnOk_of Tryd.func7 rfl (by decide)) T_instrText_ok
attribute [go_sem] T_implPT K_implPT
end Go.Proofs.YtenjbehedcegdaaDoor
