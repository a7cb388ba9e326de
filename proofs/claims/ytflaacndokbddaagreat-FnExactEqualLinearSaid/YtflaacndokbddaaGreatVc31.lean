/-
  Texts of this claim, joined (part 31). No condition beyond those of the theorems.
-/
import Derived.Test.YtflaacndokbddaaGreatVc30
import Derived.Test.YtflaacndokbddaaGreatVc06
import Derived.Test.YtflaacndokbddaaGreatVc05
namespace Go.Proofs.YtflaacndokbddaaGreat
open Go.RowKit
set_option linter.unusedSimpArgs false
set_option linter.unusedVariables false
set_option maxRecDepth 100000
set_option maxHeartbeats 8000000
def K_l05Equal:Con:=⟨[.ptr (.prod (.row 2 (.int .i64)) (.row 2 (.int .i64))),.ptr (.prod (.row 2 (.int .i64)) (.row 2 (.int .i64)))],[⟨.bool,true⟩],fun x=>(x.1.1.length≤400∧x.1.2.length≤400)∧x.2.1.1.length≤400∧x.2.1.2.length≤400,fun x=>eqTrB x.1 x.2.1⟩
theorem l05Equal_ok:PureT Tryz.prog 97 K_l05Equal:=by
  refine pure_of_body Tryz.func97 rfl ?_
  have hres:Tryz.f97.results.toList=[.tmp 4]:=rfl
  rintro ⟨⟨(xa:List Int),(xb:List Int)⟩,⟨(xa2:List Int),(xb2:List Int)⟩,_⟩ hc hL
  simp only[K_l05Equal,go_sem] at hL
  simp only[K_l05Equal,St.init,St.initG,Tryz.ntmps97,go_sem] 
  obtain ⟨⟨h1,h2⟩,h3,h4⟩:=(show (xa.length≤400∧xb.length≤400)∧xa2.length≤400∧xb2.length≤400 from hc)
  have hm1:xa.length≤400∧xb2.length≤400:=⟨h1,h4⟩
  have hm2:xa2.length≤400∧xb.length≤400:=⟨h3,h2⟩
  refine oS fun _ hK1=>?_
  refine oW T_specTrnOf_ok ?_
  simp only[go_sem]
  repeat (with_reducible first | refine oA ?_ | refine And.intro (by first | exact hm1 | exact hm2) ?_)
  refine hK1 _ ?_
  refine oS fun _ hK2=>?_
  refine oR T_specTrnOf_ok
    [[],[0],[0,1],[0,1,2],[],[4],[4,5],[4,5,6],[0,1,2,3,4,5,6,7],[],[9],[9,10],[9,10,11],[],[13],[13,14],[13,14,15],[0,1,2,3,4,5,6,7,8,9,10,11,12,13,14,15,16],[0,1,2,3,4,5,6,7,8,9,10,11,12,13,14,15,16,17],[0,1,2,3,4,5,6,7,8,9,10,11,12,13,14,15,16,17,18]]
    [[],[],[],[],[],[],[],[],[],[308,309,310,311,312,313,314,315,316,317,318,319,320,321,322,323],[308,309,310,311,312,313,314,315,316,317,318,319,320,321,322,323],[308,309,310,311,312,313,314,315,316,317,318,319,320,321,322,323],[308,309,310,311,312,313,314,315,316,317,318,319,320,321,322,323],[308,309,310,311,312,313,314,315,316,317,318,319,320,321,322,323],[308,309,310,311,312,313,314,315,316,317,318,319,320,321,322,323],[308,309,310,311,312,313,314,315,316,317,318,319,320,321,322,323],[308,309,310,311,312,313,314,315,316,317,318,319,320,321,322,323],[],[],[]]
    [[],[],[],[],[],[],[],[],[308,309,310,311,312,313,314,315,316,317,318,319,320,321,322,323],[],[],[],[],[],[],[],[],[],[],[]] (by kernel_rfl) (by kernel_rfl) (adrawR_ok (acc:=[]) ?_)
  simp (maxSteps:=2000000)only[List.nodup_cons,List.nodup_nil,List.not_mem_nil,not_false_eq_true,go_sem]
  repeat (with_reducible first | refine oD ?_ | refine And.intro (by first | exact hm1 | exact hm2) ?_)
  refine hK2 _ ?_
  refine AWP_ret ?_
  simp only[hres,go_sem]
  first | exact oF | exact oFr
def T_l05Equal:Tab:=fun f=>if f=97 then some (.p K_l05Equal) else T_specTrnOf f
theorem T_l05Equal_ok:TabOk Tryz.prog T_l05Equal:=tabP l05Equal_ok (fnOk_of Tryz.func97 rfl (by decide)) T_specTrnOf_ok
attribute [go_sem] T_l05Equal K_l05Equal
def K_specIsLin:Con:=⟨[.val ((.prod (.int .i64) (.prod (.row 26 (.row 2 (.int .i64))) (.prod (.row 90 (.prod (.int .i64) (.prod (.int .i64) (.prod (.int .i64) (.row 2 (.int .i64)))))) (.row 2 (.int .i64))))))],[⟨.bool,true⟩],fun _=>True,fun x=>patchB x.1 && linB x.1⟩
theorem specIsLin_ok:PureT Tryz.prog 96 K_specIsLin:=by
  refine pure_of_body Tryz.func96 rfl ?_
  have hres:Tryz.f96.results.toList=[.tmp 2]:=rfl
  rintro ⟨⟨(pi:Int),(ts:List (List Int)),(ns:List NodeD),(os:List Int)⟩,_⟩ hc hL
  simp only[K_specIsLin,go_sem] at hL
  simp only[K_specIsLin,St.init,St.initG,Tryz.ntmps96,go_sem] 
  refine oS fun _ hK1=>?_
  refine oW T_l05Equal_ok ?_
  simp only[go_sem]
  repeat (with_reducible first | refine oA ?_ | refine And.intro (by first | exact hP | exact hTF) ?_)
  refine hK1 _ ?_
  refine oS fun _ hK2=>?_
  refine oS fun _ hK3=>?_
  refine oW T_l05Equal_ok ?_
  simp only[go_sem]
  repeat (with_reducible first | refine oA ?_ | refine And.intro (by first | exact hP | exact hTF) ?_)
  refine hK3 _ ?_
  refine oC rfl ?_ ?_
  ·
   intro c0
   refine oS fun _ hK4=>?_
   refine oW T_l05Equal_ok ?_
   simp only[go_sem]
   repeat (with_reducible first | refine oA ?_ | refine And.intro (by first | exact hP | exact hTF) ?_)
   refine hK4 _ ?_
   refine AWP_ret ?_
   simp only[hres,go_sem]
   first
    | exact oF
    | refine ⟨?_,oF⟩
      have hn:patchB (pi,ts,ns,os)=false:=by assumption
      rw [hn]
      first | done | rfl
  intro c0
  have hP:patchB (pi,ts,ns,os)=true:=by assumption
  have hTF:=(patchB_parts (trim_patch hP)).1
  have hTl:=trim_lin (pi,ts,ns,os)
  refine AWP_skip ?_
  simp only[go_sem]
  refine hK2 _ ?_
  refine oS fun _ hK5=>?_
  refine oW T_l05Equal_ok ?_
  simp only[go_sem]
  repeat (with_reducible first | refine oA ?_ | refine And.intro (by first | exact hP | exact hTF) ?_)
  refine hK5 _ ?_
  refine oS fun _ hK6=>?_
  refine oW T_l05Equal_ok ?_
  simp only[go_sem]
  repeat (with_reducible first | refine oA ?_ | refine And.intro (by first | exact hP | exact hTF) ?_)
  refine hK6 _ ?_
  refine AWP_ret ?_
  simp only[hres,go_sem]
  first
   | exact oF
   | refine ⟨?_,oF⟩
     rw [hP,← hTl]
     first | done | rfl
def T_specIsLin:Tab:=fun f=>if f=96 then some (.p K_specIsLin) else T_l05Equal f
theorem T_specIsLin_ok:TabOk Tryz.prog T_specIsLin:=tabP specIsLin_ok (fnOk_of Tryz.func96 rfl (by decide)) T_l05Equal_ok
attribute [go_sem] T_specIsLin K_specIsLin
def K_specEqLin:Con:=⟨[.val ((.prod (.int .i64) (.prod (.row 26 (.row 2 (.int .i64))) (.prod (.row 90 (.prod (.int .i64) (.prod (.int .i64) (.prod (.int .i64) (.row 2 (.int .i64)))))) (.row 2 (.int .i64)))))),.val ((.prod (.int .i64) (.prod (.row 26 (.row 2 (.int .i64))) (.prod (.row 90 (.prod (.int .i64) (.prod (.int .i64) (.prod (.int .i64) (.row 2 (.int .i64)))))) (.row 2 (.int .i64))))))],[⟨.bool,true⟩,⟨.int .i64,true⟩],fun _=>True,fun x=>eqlR x.1 x.2.1⟩
theorem specEqLin_ok:PureT Tryz.prog 43 K_specEqLin:=by
  refine pure_of_body Tryz.func43 rfl ?_
  have hres:Tryz.f43.results.toList=[.tmp 4,.tmp 5]:=rfl
  rintro ⟨⟨(pi:Int),(ts:List (List Int)),(ns:List NodeD),(os:List Int)⟩,⟨(pi2:Int),(ts2:List (List Int)),(ns2:List NodeD),(os2:List Int)⟩,_⟩ hc hL
  simp only[K_specEqLin,go_sem] at hL
  simp only[K_specEqLin,St.init,St.initG,Tryz.ntmps43,go_sem] 
  rcases hlr:linR (pi,ts,ns,os) with ⟨⟨ni,la,lb,lc,ld⟩,cd⟩
  obtain ⟨hcd,hX0⟩:=linR_x hlr
  rcases hlr2:linR (pi2,ts2,ns2,os2) with ⟨⟨ni2,la2,lb2,lc2,ld2⟩,cd2⟩
  obtain ⟨hcd2,hY0⟩:=linR_x hlr2
  refine oS fun _ hK1=>?_
  refine oW T_specIsLin_ok ?_
  simp only[go_sem]
  refine hK1 _ ?_
  refine oS fun _ hK2=>?_
  refine oS fun _ hK3=>?_
  refine oW T_specIsLin_ok ?_
  simp (maxSteps:=2000000)only[List.nodup_cons,List.nodup_nil,List.not_mem_nil,not_false_eq_true,go_sem]
  repeat' (with_reducible first | refine oA ?_ | refine oT (fun g1=>?_) (fun g1=>?_) | refine oE (fun g1=>?_) (fun g1=>?_))
  all_goals
   refine hK3 _ ?_
   refine AWP_cond rfl ?_ ?_
   ·
    intro c0
    try simp only[zA,zB,zC,zD,zE,zF,zG,zH,zI] at c0
    all_goals
     refine oS fun _ hK4=>?_
     refine oW T_specIsLin_ok ?_
     simp only[go_sem]
     refine hK4 _ ?_
     refine AWP_ret ?_
     simp only[hres,go_sem]
     first
      | exact oF
      | refine ⟨?_,oF⟩
        have hkf:(patchB (pi,ts,ns,os) && patchB (pi2,ts2,ns2,os2))=false:=by clear hK1 hK2 hK3 hK4; simp_all
        have hcc:=two_1 hkf
        first | (rw [eqlR_f (by rw [hcc]; decide),hcc]; exact ⟨rfl,rfl⟩) | (rw [eqlR_f (by rw [hcc]; decide),hcc]; done)
   ·
    intro c0
    try simp only[zA,zB,zC,zD,zE,zF,zG,zH,zI] at c0
    all_goals
     have hk1:(patchB (pi,ts,ns,os) && patchB (pi2,ts2,ns2,os2))=true:=by clear hK1 hK2 hK3; simp_all
     refine AWP_skip ?_
     simp only[go_sem]
     refine hK2 _ ?_
     refine oS fun _ hK5=>?_
     refine oS fun _ hK6=>?_
     refine oW T_specIsLin_ok ?_
     simp (maxSteps:=2000000)only[List.nodup_cons,List.nodup_nil,List.not_mem_nil,not_false_eq_true,go_sem]
     repeat' (with_reducible first | refine oA ?_ | refine And.intro (by first | omega) ?_ | refine oT (fun g3=>?_) (fun g3=>?_) | refine oE (fun g3=>?_) (fun g3=>?_))
     all_goals
      refine hK6 _ ?_
      refine AWP_cond rfl ?_ ?_
      ·
       intro c1
       try simp only[zA,zB,zC,zD,zE,zF,zG,zH,zI] at c1
       all_goals
        refine oS fun _ hK7=>?_
        refine oW T_specIsLin_ok ?_
        simp only[go_sem]
        refine hK7 _ ?_
        refine AWP_ret ?_
        simp only[hres,go_sem]
        first
         | exact oF
         | refine ⟨?_,oF⟩
           have hkf:(linB (pi,ts,ns,os) && linB (pi2,ts2,ns2,os2) && decide (pi=pi2) && decide (os.length=os2.length))=false:=by clear hK1 hK2 hK3 hK5 hK6 hK7; simp_all<;>(intros; omega)
           have hcc:=two_6 (p:=(pi,ts,ns,os)) (q:=(pi2,ts2,ns2,os2)) hk1 hkf
           first | (rw [eqlR_f (by rw [hcc]; decide),hcc]; exact ⟨rfl,rfl⟩) | (rw [eqlR_f (by rw [hcc]; decide),hcc]; done)
      ·
       intro c1
       try simp only[zA,zB,zC,zD,zE,zF,zG,zH,zI] at c1
       all_goals
        have hk6:(linB (pi,ts,ns,os) && linB (pi2,ts2,ns2,os2) && decide (pi=pi2) && decide (os.length=os2.length))=true:=by clear hK1 hK2 hK3 hK5 hK6; simp_all<;>omega
        have htw:=two_of (p:=(pi,ts,ns,os)) (q:=(pi2,ts2,ns2,os2)) hk1 hk6
        refine AWP_skip ?_
        simp only[go_sem]
        refine hK5 _ ?_
        refine oS fun _ hK8=>?_
        refine oW T_specIsLin_ok ?_
        simp (maxSteps:=2000000)only[List.nodup_cons,List.nodup_nil,List.not_mem_nil,not_false_eq_true,hlr,go_sem]
        repeat (with_reducible refine oA ?_)
        refine hK8 _ ?_
        refine oS fun _ hK9=>?_
        refine oW T_specIsLin_ok ?_
        simp (maxSteps:=2000000)only[List.nodup_cons,List.nodup_nil,List.not_mem_nil,not_false_eq_true,hlr2,go_sem]
        repeat (with_reducible refine oA ?_)
        refine hK9 _ ?_
        refine oS fun _ hK10=>?_
        refine oS fun _ hK11=>?_
        refine oW T_specIsLin_ok ?_
        simp (maxSteps:=2000000)only[go_sem]
        repeat' (with_reducible first | refine oA ?_ | refine oT (fun g7=>?_) (fun g7=>?_) | refine oE (fun g7=>?_) (fun g7=>?_))
        all_goals
         refine hK11 _ ?_
         refine AWP_cond rfl ?_ ?_
         ·
          intro c2
          try simp only[zA,zB,zC,zD,zE,zF,zG,zH,zI] at c2
          all_goals
           refine oS fun _ hK12=>?_
           refine oW T_specIsLin_ok ?_
           simp only[go_sem]
           refine hK12 _ ?_
           refine AWP_ret ?_
           simp only[hres,go_sem]
           first
            | exact oF
            | refine ⟨?_,oF⟩
              have hcc:=two_5 htw (by rw [← hcd,← hcd2]; first | omega | (clear hK1 hK2 hK3 hK5 hK6 hK8 hK9 hK10 hK11 hK12; simp_all))
              first | (rw [eqlR_f (by rw [hcc]; decide),hcc]; exact ⟨rfl,rfl⟩) | (rw [eqlR_f (by rw [hcc]; decide),hcc]; done)
         ·
          intro c2
          try simp only[zA,zB,zC,zD,zE,zF,zG,zH,zI] at c2
          all_goals
           have hl1:linCode (pi,ts,ns,os)=0:=by first | omega | (clear hK1 hK2 hK3 hK5 hK6 hK8 hK9 hK10 hK11; simp_all)
           have hl2:linCode (pi2,ts2,ns2,os2)=0:=by first | omega | (clear hK1 hK2 hK3 hK5 hK6 hK8 hK9 hK10 hK11; simp_all)
           have hl0:=two_0 htw hl1 hl2
           have hk:=linOk_of hl1
           have hk2:=linOk_of hl2
           have hX:=hX0 hl1
           have hY:=hY0 hl2
           obtain ⟨hW,ha1,hni,hlo,hsq⟩:=linOk_x hk hX
           obtain ⟨hW2,ha2,hni2,hlo2,hsq2⟩:=linOk_x hk2 hY
           have hni:ni=pi:=hni
           have hlo:lc.length=os.length:=hlo
           have hni2:ni2=pi2:=hni2
           have hlo2:lc2.length=os2.length:=hlo2
           have hpp:pi=pi2:=htw.i
           have hoo:os.length=os2.length:=htw.o
           have hp4:0≤pi∧pi≤4:=hk.i4
           have ho4:os.length≤4:=hk.o4
           refine AWP_skip ?_
           simp only[go_sem]
           refine hK10 _ ?_
           refine oS fun _ hK13=>?_
           refine oS fun _ hK14=>?_
           refine oW T_specIsLin_ok ?_
           simp only[go_sem]
           refine hK14 _ ?_
           refine AWP_block ?_
           refine AWP_loop_k (ι:={ i:Nat // i≤Int.toNat pi∧∀ i',i' < i→∀ o,o < os.length→eqTrB (trnL (ni,la,lb,lc,ld) (i':Int) (o:Int)) (trnL (ni2,la2,lb2,lc2,ld2) (i':Int) (o:Int))=true }) (fun k=>⟨[zz,zz,zz,zz,zz,zz,.c (.po 196 0),zz,.c (.po 228 0),zz,.c (.sc (.int .i64 (k.1))),zz,zz,zz,zz,zz,zz,zz,zz,zz,zz,zz,zz,zz,zz,zz,zz,zz,zz,zz,zz,zz,zz,zz,zz,zz,zz,zz,zz,zz,zz,zz,zz,zz,zz,zz,zz,zz,zz,zz,zz,zz,zz,zz,zz,zz,zz,zz,zz,zz,zz,zz,zz,zz,zz,zz,zz,zz,zz,zz,zz,zz,zz,zz,zz,zz,zz,zz,zz],[(196,.box [.sc (.int .i64 (ni)),.ow 9011,.ow 9012,.ow 9013,.ow 9014]),(9011,.tree 26 (.row 2 (.int .i64)) (la) none),(9012,.tree 26 (.row 2 (.int .i64)) (lb) none),(9013,.tree 26 (.row 2 (.int .i64)) (lc) none),(9014,.tree 26 (.row 2 (.int .i64)) (ld) none),(228,.box [.sc (.int .i64 (ni2)),.ow 9021,.ow 9022,.ow 9023,.ow 9024]),(9021,.tree 26 (.row 2 (.int .i64)) (la2) none),(9022,.tree 26 (.row 2 (.int .i64)) (lb2) none),(9023,.tree 26 (.row 2 (.int .i64)) (lc2) none),(9024,.tree 26 (.row 2 (.int .i64)) (ld2) none)]⟩) (fun k=>(Int.toNat pi) - k.1) ⟨0,by simp,fun i' h=>absurd h (Nat.not_lt_zero _)⟩ ?_ ?_
           ·
            refine oK ?_
            simp (maxSteps:=2000000)only[go_sem]
            all_goals (first | rfl | ((repeat' refine And.intro ?_ ?_)<;>first | rfl | simp))
           rintro ⟨i,hi,ha⟩ K15 hL15
           refine oS fun _ hK16=>?_
           refine oS fun _ hK17=>?_
           refine oW T_specIsLin_ok ?_
           simp only[go_sem]
           repeat (with_reducible refine oA ?_)
           refine hK17 _ ?_
           refine AWP_cond rfl ?_ ?_
           ·
            intro c3
            try simp only[zA,zB,zC,zD,zE,zF,zG,zH,zI] at c3
            all_goals
             refine AWP_skip ?_
             simp only[go_sem]
             refine hK16 _ ?_
             refine oS fun _ hK18=>?_
             refine AWP_block ?_
             refine oS fun _ hK19=>?_
             refine oW T_specIsLin_ok ?_
             simp only[go_sem]
             refine hK19 _ ?_
             refine AWP_block ?_
             refine AWP_loop_k (ι:={ o:Nat // o≤os.length∧∀ o',o' < o→eqTrB (trnL (ni,la,lb,lc,ld) (i:Int) (o':Int)) (trnL (ni2,la2,lb2,lc2,ld2) (i:Int) (o':Int))=true }) (fun k'=>⟨[zz,zz,zz,zz,zz,zz,.c (.po 196 0),zz,.c (.po 228 0),zz,.c (.sc (.int .i64 (i))),.c (.sc (.int .i64 (k'.1))),zz,zz,zz,zz,zz,zz,zz,zz,zz,zz,zz,zz,zz,zz,zz,zz,zz,zz,zz,zz,zz,zz,zz,zz,zz,zz,zz,zz,zz,zz,zz,zz,zz,zz,zz,zz,zz,zz,zz,zz,zz,zz,zz,zz,zz,zz,zz,zz,zz,zz,zz,zz,zz,zz,zz,zz,zz,zz,zz,zz,zz,zz,zz,zz,zz,zz,zz],[(196,.box [.sc (.int .i64 (ni)),.ow 9011,.ow 9012,.ow 9013,.ow 9014]),(9011,.tree 26 (.row 2 (.int .i64)) (la) none),(9012,.tree 26 (.row 2 (.int .i64)) (lb) none),(9013,.tree 26 (.row 2 (.int .i64)) (lc) none),(9014,.tree 26 (.row 2 (.int .i64)) (ld) none),(228,.box [.sc (.int .i64 (ni2)),.ow 9021,.ow 9022,.ow 9023,.ow 9024]),(9021,.tree 26 (.row 2 (.int .i64)) (la2) none),(9022,.tree 26 (.row 2 (.int .i64)) (lb2) none),(9023,.tree 26 (.row 2 (.int .i64)) (lc2) none),(9024,.tree 26 (.row 2 (.int .i64)) (ld2) none)]⟩) (fun k'=>os.length - k'.1) ⟨0,by simp,fun o' h=>absurd h (Nat.not_lt_zero _)⟩ ?_ ?_
             ·
              refine oK ?_
              simp (maxSteps:=2000000)only[go_sem]
              all_goals (first | rfl | ((repeat' refine And.intro ?_ ?_)<;>first | rfl | simp))
             rintro ⟨o,ho,hin⟩ K20 hL20
             refine oS fun _ hK21=>?_
             refine oS fun _ hK22=>?_
             refine oW T_specIsLin_ok ?_
             simp (maxSteps:=2000000)only[go_sem]
             repeat (with_reducible refine oA ?_)
             refine hK22 _ ?_
             refine AWP_cond rfl ?_ ?_
             ·
              intro c4
              try simp only[zA,zB,zC,zD,zE,zF,zG,zH,zI] at c4
              all_goals
               have hTa:=trB_len (trnL_ok (x:=(ni,la,lb,lc,ld)) ha1 (i:Int) (o:Int))
               have hTb:=trB_len (trnL_ok (x:=(ni2,la2,lb2,lc2,ld2)) ha2 (i:Int) (o:Int))
               rcases hta:trnL (ni,la,lb,lc,ld) (i:Int) (o:Int) with ⟨ua,ub⟩
               rcases htb:trnL (ni2,la2,lb2,lc2,ld2) (i:Int) (o:Int) with ⟨va,vb⟩
               rw [hta] at hTa
               rw [htb] at hTb
               obtain ⟨⟨_,hu1,_⟩,⟨_,hu2,_⟩,_⟩:=hTa
               obtain ⟨⟨_,hv1,_⟩,⟨_,hv2,_⟩,_⟩:=hTb
               have hu1:ua.length≤65:=hu1
               have hu2:ub.length≤65:=hu2
               have hv1:va.length≤65:=hv1
               have hv2:vb.length≤65:=hv2
               have hec:(ua.length≤400∧ub.length≤400)∧va.length≤400∧vb.length≤400:=⟨⟨by omega,by omega⟩,by omega,by omega⟩
               have hT1:linW (ni,la,lb,lc,ld) la.length∧la.length≤24∧lc.length≤1000∧0≤(i:Int)∧(0≤(o:Int)∧(o:Int) < lc.length):=⟨hW,ha1,by omega,by omega,by omega,by omega⟩
               have hT2:linW (ni2,la2,lb2,lc2,ld2) la2.length∧la2.length≤24∧lc2.length≤1000∧0≤(i:Int)∧(0≤(o:Int)∧(o:Int) < lc2.length):=⟨hW2,ha2,by omega,by omega,by omega,by omega⟩
               refine AWP_skip ?_
               simp only[go_sem]
               refine hK21 _ ?_
               refine oS fun _ hK23=>?_
               refine AWP_block ?_
               refine oS fun _ hK24=>?_
               refine oW T_specIsLin_ok ?_
               simp (maxSteps:=2000000)only[List.nodup_cons,List.nodup_nil,List.not_mem_nil,not_false_eq_true,hta,go_sem]
               repeat (with_reducible first | refine oA ?_ | refine And.intro (by first | exact hT1) ?_)
               refine hK24 _ ?_
               refine oS fun _ hK25=>?_
               refine oW T_specIsLin_ok ?_
               simp (maxSteps:=2000000)only[List.nodup_cons,List.nodup_nil,List.not_mem_nil,not_false_eq_true,htb,go_sem]
               repeat (with_reducible first | refine oA ?_ | refine And.intro (by first | exact hT2) ?_)
               refine hK25 _ ?_
               refine oS fun _ hK26=>?_
               refine oW T_specIsLin_ok ?_
               simp only[List.nodup_cons,List.nodup_nil,List.not_mem_nil,not_false_eq_true,go_sem]
               repeat (with_reducible first | refine oA ?_ | refine And.intro (by first | exact hec) ?_)
               refine hK26 _ ?_
               refine AWP_cond rfl ?_ ?_
               ·
                intro c5
                try simp only[zA,zB,zC,zD,zE,zF,zG,zH,zI] at c5
                all_goals
                 refine oS fun _ hK27=>?_
                 refine oW T_specIsLin_ok ?_
                 simp only[go_sem]
                 refine hK27 _ ?_
                 refine AWP_ret ?_
                 simp only[hres,go_sem]
                 first
                  | exact oF
                  | refine ⟨?_,oF⟩
                    have hef:eqTrB (trnL (ni,la,lb,lc,ld) (i:Int) (o:Int)) (trnL (ni2,la2,lb2,lc2,ld2) (i:Int) (o:Int))=false:=by rw [hta,htb]; first | assumption | (clear hK1 hK2 hK3 hK5 hK6 hK8 hK9 hK10 hK11 hK13 hK14 hL15 hK16 hK17 hK18 hK19 hL20 hK21 hK22 hK23 hK24 hK25 hK26 hK27; simp_all; done)
                    have hq:=eqlR_no hl0 hX hY (i:=i) (o:=o) (by show i < (Int.toNat pi); omega) (by show o < os.length; omega) hef
                    first | (rw [hq]; exact ⟨rfl,rfl⟩) | (rw [hq]; done)
               ·
                intro c5
                try simp only[zA,zB,zC,zD,zE,zF,zG,zH,zI] at c5
                all_goals
                 have het:eqTrB (trnL (ni,la,lb,lc,ld) (i:Int) (o:Int)) (trnL (ni2,la2,lb2,lc2,ld2) (i:Int) (o:Int))=true:=by rw [hta,htb]; first | assumption | (clear hK1 hK2 hK3 hK5 hK6 hK8 hK9 hK10 hK11 hK13 hK14 hL15 hK16 hK17 hK18 hK19 hL20 hK21 hK22 hK23 hK24 hK25 hK26; simp_all; done)
                 refine AWP_skip ?_
                 simp only[go_sem]
                 refine hK23 _ ?_
                 refine oW T_specIsLin_ok ?_
                 simp only[go_sem]
                 refine hL20 ⟨o+1,by omega,fun o' h=>by
                   rcases Nat.lt_succ_iff_lt_or_eq.1 h with h | h
                   · exact hin o' h
                   · subst h; exact het⟩ _ (oK ?_) ?_
                 ·
                  simp (maxSteps:=2000000)only[go_sem]
                  all_goals ((repeat' refine And.intro ?_ ?_)<;>first | rfl | exact wk (by omega) | (congr 1; done))
                 ·
                  first | (simp only[]; omega) | omega | (simp; omega)
             ·
              intro c4
              try simp only[zA,zB,zC,zD,zE,zF,zG,zH,zI] at c4
              all_goals
               refine AWP_exit ?_
               simp only[go_sem]
               refine hK18 _ ?_
               refine oW T_specIsLin_ok ?_
               simp only[go_sem]
               refine hL15 ⟨i+1,by omega,fun j h o' ho'=>by
                 rcases Nat.lt_succ_iff_lt_or_eq.1 h with h | h
                 · exact ha j h o' ho'
                 · subst h; exact hin o' (by omega)⟩ _ (oK ?_) ?_
               ·
                simp (maxSteps:=2000000)only[go_sem]
                all_goals ((repeat' refine And.intro ?_ ?_)<;>first | rfl | exact wk (by omega) | (congr 1; done))
               ·
                first | (simp only[]; omega) | omega | (simp; omega)
           ·
            intro c3
            try simp only[zA,zB,zC,zD,zE,zF,zG,zH,zI] at c3
            all_goals
             refine AWP_exit ?_
             simp only[go_sem]
             refine hK13 _ ?_
             refine oS fun _ hK28=>?_
             refine oW T_specIsLin_ok ?_
             simp only[go_sem]
             refine hK28 _ ?_
             refine AWP_ret ?_
             simp only[hres,go_sem]
             first
              | exact oF
              | refine ⟨?_,oF⟩
                have hq:=eqlR_yes hl0 hX hY (fun j h=>ha j (by have h:j < (Int.toNat pi):=h; omega))
                first | (rw [hq]; exact ⟨rfl,rfl⟩) | (rw [hq]; done)
def T_specEqLin:Tab:=fun f=>if f=43 then some (.p K_specEqLin) else T_specIsLin f
theorem T_specEqLin_ok:TabOk Tryz.prog T_specEqLin:=tabP specEqLin_ok (fnOk_of Tryz.func43 rfl (by decide)) T_specIsLin_ok
attribute [go_sem] T_specEqLin K_specEqLin
set_option maxRecDepth 100000
set_option maxHeartbeats 1000000
def K_clone:Con:=⟨[.val ((.row 2 (.int .i64)))],[⟨(.row 2 (.int .i64)),true⟩],fun x=>x.1.length≤1099511627776,fun x=>x.1⟩
theorem clone_ok:PureT Tryz.prog 112 K_clone:=by
  refine pure_of_body Tryz.func112 rfl ?_
  have hres:Tryz.f112.results.toList=[.tmp 2]:=rfl
  rintro ⟨(xs:List Int),_⟩ hc hL
  simp only[K_clone,go_sem] at hL
  simp only[K_clone,St.init,St.initG,Tryz.ntmps112,go_sem] 
  have hx:xs.length≤1099511627776:=hc
  refine oS fun _ hK1=>?_
  refine oW T_kinds_ok ?_
  simp only[go_sem]
  refine hK1 _ ?_
  refine oS fun _ hK2=>?_
  refine oW T_kinds_ok ?_
  simp only[go_sem]
  repeat (with_reducible refine oA ?_)
  refine hK2 _ ?_
  refine AWP_ret ?_
  simp only[hres,go_sem]
  first | exact oF | exact oFr
def T_clone:Tab:=fun f=>if f=112 then some (.p K_clone) else T_kinds f
theorem T_clone_ok:TabOk Tryz.prog T_clone:=tabP clone_ok (fnOk_of Tryz.func112 rfl (by decide)) T_kinds_ok
attribute [go_sem] T_clone K_clone
def K_clones:Con:=⟨[.val ((.row 26 (.row 2 (.int .i64))))],[⟨(.row 26 (.row 2 (.int .i64))),true⟩],fun x=>fitsL x.1,fun x=>x.1⟩
theorem clones_ok:PureT Tryz.prog 51 K_clones:=by
  refine pure_of_body Tryz.func51 rfl ?_
  have hres:Tryz.f51.results.toList=[.tmp 2]:=rfl
  rintro ⟨(xs:List (List Int)),_⟩ hc hL
  simp only[K_clones,go_sem] at hL
  simp only[K_clones,St.init,St.initG,Tryz.ntmps51,go_sem] 
  obtain ⟨hx,hy⟩:=(show fitsL xs from hc)
  refine oS fun _ hK1=>?_
  refine oW T_clone_ok ?_
  simp only[go_sem]
  refine hK1 _ ?_
  refine oS fun _ hK2=>?_
  refine oW T_clone_ok ?_
  simp only[List.nodup_nil,go_sem]
  repeat (with_reducible refine oA ?_)
  refine hK2 _ ?_
  refine oS fun _ hK3=>?_
  refine oS fun _ hK4=>?_
  refine oW T_clone_ok ?_
  simp only[go_sem]
  refine hK4 _ ?_
  refine AWP_block ?_
  refine AWP_loop_k (ι:={ k:Nat // k≤xs.length }) (fun k=>⟨[zz,zz,zz,.c (.ow 9001),zz,zz,zz,.c (.rd [] 26 (.row 2 (.int .i64)) (xs)),.c (.sc (.int .i64 (xs.length))),.c (.sc (.int .i64 (k.1))),zz,zz,zz,zz,zz,zz,zz,zz,zz,zz],[(9001,.tree 26 (.row 2 (.int .i64)) (xs.take k.1) none)]⟩) (fun k=>xs.length - k.1) ⟨0,by simp⟩ ?_ ?_
  ·
   refine oK ?_
   simp (maxSteps:=2000000)only[go_sem]
   all_goals (first | rfl | ((repeat' refine And.intro ?_ ?_)<;>first | rfl | simp))
  rintro ⟨k,hk⟩ K5 hL5
  have htk:(List.take k xs).length≤1099511627776:=by rw [List.length_take]; omega
  have hyk:k < xs.length→(xs.getD k []).length≤1099511627776:=fun h=>hy _ (getD_mem h)
  refine oS fun _ hK6=>?_
  refine oW T_clone_ok ?_
  simp only[go_sem]
  refine hK6 _ ?_
  refine oS fun _ hK7=>?_
  refine oC rfl ?_ ?_
  ·
   intro c0
   refine AWP_skip ?_
   simp only[go_sem]
   refine hK7 _ ?_
   refine oS fun _ hK8=>?_
   refine AWP_block ?_
   refine oS fun _ hK9=>?_
   refine oW T_clone_ok ?_
   simp only[go_sem]
   repeat (with_reducible refine oA ?_)
   refine hK9 _ ?_
   refine oW T_clone_ok ?_
   simp (maxSteps:=2000000)only[List.nodup_cons,List.nodup_nil,List.not_mem_nil,not_false_eq_true,go_sem]
   repeat (with_reducible first | refine oA ?_ | refine And.intro (by first | omega) ?_)
   refine hK8 _ ?_
   refine oW T_clone_ok ?_
   simp only[go_sem]
   refine hL5 ⟨k+1,by omega⟩ _ (oK ?_) ?_
   ·
    simp (maxSteps:=2000000)only[go_sem]
    all_goals first | rfl | exact wk (by omega) | exact ⟨wk (by omega),by rw [take_next (xs:=xs) (k:=k) (d:=[]) (by omega)]⟩
   ·
    first | (simp only[]; omega) | omega | (simp; omega)
  intro c0
  refine AWP_exit ?_
  simp only[go_sem]
  refine hK3 _ ?_
  refine oS fun _ hK10=>?_
  refine oW T_clone_ok ?_
  simp only[go_sem]
  refine hK10 _ ?_
  refine AWP_ret ?_
  simp only[hres,go_sem]
  first | exact oF | (refine ⟨?_,oF⟩; exact List.take_of_length_le (by omega))
def T_clones:Tab:=fun f=>if f=51 then some (.p K_clones) else T_clone f
theorem T_clones_ok:TabOk Tryz.prog T_clones:=tabP clones_ok (fnOk_of Tryz.func51 rfl (by decide)) T_clone_ok
attribute [go_sem] T_clones K_clones
def T_shiftedNode:Tab:=T_clones
attribute [go_sem] T_shiftedNode
end Go.Proofs.YtflaacndokbddaaGreat
