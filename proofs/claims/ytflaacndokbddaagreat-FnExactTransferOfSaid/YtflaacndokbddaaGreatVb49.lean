/-
  Texts of this claim, joined (part 49). No condition beyond those of the theorems.
-/
import Derived.Test.YtflaacndokbddaaGreatVb07
import Derived.Test.YtflaacndokbddaaGreatVb08
import Derived.Test.YtflaacndokbddaaGreatVb15
import Derived.Test.YtflaacndokbddaaGreatVb32
import Derived.Test.YtflaacndokbddaaGreatVb48
import Derived.Test.YtflaacndokbddaaGreatVb02
namespace Go.Proofs.YtflaacndokbddaaGreat
open Go.RowKit
set_option linter.unusedSimpArgs false
set_option linter.unusedVariables false
set_option maxRecDepth 100000
set_option maxHeartbeats 1000000
def T_mHx200:Tab:=fun f=>match T_toP f with
 | some k=>some k
 | none=>T_markP f
theorem T_mHx200_ok:TabOk Tryz.prog T_mHx200:=tabM T_toP_ok T_markP_ok
attribute [go_sem] T_mHx200 T0
def T_mHx201:Tab:=fun f=>match T_mHx200 f with
 | some k=>some k
 | none=>T_markTr f
theorem T_mHx201_ok:TabOk Tryz.prog T_mHx201:=tabM T_mHx200_ok T_markTr_ok
attribute [go_sem] T_mHx201 T0
def T_mHx202:Tab:=fun f=>match T_mHx201 f with
 | some k=>some k
 | none=>T_implTrnOf f
theorem T_mHx202_ok:TabOk Tryz.prog T_mHx202:=tabM T_mHx201_ok T_implTrnOf_ok
attribute [go_sem] T_mHx202 T0
def T_mHx203:Tab:=fun f=>match T_mHx202 f with
 | some k=>some k
 | none=>T_specTrnOf f
theorem T_mHx203_ok:TabOk Tryz.prog T_mHx203:=tabM T_mHx202_ok T_specTrnOf_ok
attribute [go_sem] T_mHx203 T0
def K_lawTrn:Con:=⟨[.val ((.prod (.int .i64) (.prod (.row 26 (.row 2 (.int .i64))) (.prod (.row 147 (.prod (.int .i64) (.prod (.int .i64) (.prod (.int .i64) (.row 2 (.int .i64)))))) (.row 2 (.int .i64)))))),.val (.int .i64),.val (.int .i64)],[⟨.bool,true⟩],fun _=>True,fun _=>true⟩
theorem lawTrn_ok : PureT Tryz.prog 6 K_lawTrn := by
  refine pure_of_body Tryz.func6 rfl ?_
  have hres:Tryz.f6.results.toList=[.tmp 6]:=rfl
  rintro ⟨⟨(pi:Int),(ts:List (List Int)),(ns:List NodeD),(os:List Int)⟩,(ii:Int),(oo:Int),_⟩ hc hL
  simp only [K_lawTrn,go_sem] at hL
  simp only [K_lawTrn,St.init,St.initG,Tryz.ntmps6,go_sem] 
  obtain ⟨U,hU⟩ :∃U,trnR (pi,ts,ns,os) ii oo=U:=⟨_,rfl⟩
  have hUb0:(U.1.1.length≤1000000∧U.1.2.length≤1000000):=by rw [← hU]; exact trn_bd _ _ _
  have hUz0:ctTr (U.1.1,U.1.2)=U.1.1.length+U.1.2.length:=rfl
  obtain ⟨hUx0,hUy0⟩:=hUb0
  have hUh0:heldTr (1) (markL (1) U.1.1,markL (1+(U.1.1.length:Int)) U.1.2)=1+(ctTr (U.1.1,U.1.2):Int):=heldTr_mark' _ _ _
  have hUm0:mkOk (1) (ctTr (markL (1) U.1.1,markL (1+(U.1.1.length:Int)) U.1.2)):=by
    rw [show ctTr (markL (1) U.1.1,markL (1+(U.1.1.length:Int)) U.1.2)=ctTr (U.1.1,U.1.2) from ctTr_mk (1) U.1]
    exact ⟨by omega,by omega⟩
  have hUn0:decide (1+(ctTr (U.1.1,U.1.2):Int) < 0)=false:=decide_eq_false (by omega)
  refine oS fun K1 hK1=>?_
  refine AWP_wk (Wk_keep _ [0,1,2] []) ?_
  simp (maxSteps:=2000000) only [go_sem]
  refine oW T_mHx203_ok ?_
  simp only [go_sem]
  repeat (with_reducible first | refine oA ?_ | refine And.intro (by first | assumption | exact ⟨by omega,by omega⟩ | (refine ⟨by omega,?_⟩; simp only [ctP,ctTr] at *; omega)) ?_)
  refine hK1 _ ?_
  refine oS fun K2 hK2=>?_
  refine oW T_mHx203_ok ?_
  simp only [go_sem]
  repeat (with_reducible first | refine oA ?_ | refine And.intro (by first | assumption | exact ⟨by omega,by omega⟩ | (refine ⟨by omega,?_⟩; simp only [ctP,ctTr] at *; omega)) ?_)
  refine hK2 _ ?_
  refine oS fun K3 hK3=>?_
  refine AWP_wk (Wk_keep _ [1,2,3,7] [148]) ?_
  simp (maxSteps:=2000000) only [go_sem]
  refine oW T_mHx203_ok ?_
  simp only [go_sem]
  repeat (with_reducible first | refine oA ?_ | refine And.intro (by first | assumption | exact ⟨by omega,by omega⟩ | (refine ⟨by omega,?_⟩; simp only [ctP,ctTr] at *; omega)) ?_)
  refine hK3 _ ?_
  refine oS fun K4 hK4=>?_
  refine oS fun K5 hK5=>?_
  refine oW T_mHx203_ok ?_
  simp only [go_sem]
  repeat (with_reducible first | refine oA ?_ | refine And.intro (by first | assumption | exact ⟨by omega,by omega⟩ | (refine ⟨by omega,?_⟩; simp only [ctP,ctTr] at *; omega)) ?_)
  refine hK5 _ ?_
  refine oC rfl ?_ ?_
  ·
   intro c0
   refine oS fun K6 hK6=>?_
   refine oW T_mHx203_ok ?_
   simp only [go_sem]
   repeat (with_reducible first | refine oA ?_ | refine And.intro (by first | assumption | exact ⟨by omega,by omega⟩ | (refine ⟨by omega,?_⟩; simp only [ctP,ctTr] at *; omega)) ?_)
   refine hK6 _ ?_
   refine AWP_ret ?_
   simp only [hres,go_sem]
   first | exact oF | exact oFr
  intro c0
  obtain ⟨e0,e0'⟩:=szR_ge' c0
  have f0:fitsP (pi,ts,ns,os):=fitsP_sz (by omega)
  have g0:=ctP_le (pi,ts,ns,os)
  have hz0:ctP (0,ts,ns,os)=ctP (pi,ts,ns,os):=rfl
  have hn1:decide (1+(ctP (0,ts,ns,os):Int) < 0)=false:=decide_eq_false (by omega)
  refine AWP_skip ?_
  simp only [go_sem]
  refine hK4 _ ?_
  refine oS fun K7 hK7=>?_
  refine AWP_wk (Wk_keep _ [1,2,3] [148]) ?_
  simp (maxSteps:=2000000) only [go_sem]
  refine oW T_mHx203_ok ?_
  simp (maxSteps:=2000000) only [hU,eqD_rfl,hn1,hUh0,hUn0,go_sem]
  repeat (with_reducible first | refine oA ?_ | refine And.intro (by first | assumption | exact ⟨by omega,by omega⟩ | (refine ⟨by omega,?_⟩; simp only [ctP,ctTr] at *; omega)) ?_)
  refine hK7 _ ?_
  refine oS fun K8 hK8=>?_
  refine AWP_wk (Wk_keep _ [1,2,3,8,9] [148,228,548,549,550,551,552,553,554,555]) ?_
  simp (maxSteps:=2000000) only [go_sem]
  refine oW T_mHx203_ok ?_
  simp only [hU,eqD_rfl,hn1,hUh0,hUn0,go_sem]
  repeat (with_reducible first | refine oA ?_ | refine And.intro (by first | assumption | exact ⟨by omega,by omega⟩ | (refine ⟨by omega,?_⟩; simp only [ctP,ctTr] at *; omega)) ?_)
  refine hK8 _ ?_
  refine oS fun K9 hK9=>?_
  refine AWP_wk (Wk_keep _ [1,2,3,8,9,10] [148,228,260,548,549,550,551,552,553,554,555,612,613,614,615,616,617,618,619]) ?_
  simp (maxSteps:=2000000) only [go_sem]
  refine oW T_mHx203_ok ?_
  simp (maxSteps:=2000000) only [hU,eqD_rfl,hn1,hUh0,hUn0,go_sem]
  repeat (with_reducible first | refine oA ?_ | refine And.intro (by first | assumption | exact ⟨by omega,by omega⟩ | (refine ⟨by omega,?_⟩; simp only [ctP,ctTr] at *; omega)) ?_)
  refine hK9 _ ?_
  refine oS fun K10 hK10=>?_
  refine oS fun K11 hK11=>?_
  refine AWP_wk (Wk_keep _ [1,2,3,8,9,10,11,12] [148,228,260,276,548,549,550,551,552,553,554,555,612,613,614,615,616,617,618,619,692,693,694,695,696,697,698,699]) ?_
  simp (maxSteps:=2000000) only [go_sem]
  refine oW T_mHx203_ok ?_
  simp (maxSteps:=2000000) only [hU,eqD_rfl,hn1,hUh0,hUn0,go_sem]
  repeat' (with_reducible first | refine oA ?_ | refine And.intro (by first | assumption | exact ⟨by omega,by omega⟩ | (refine ⟨by omega,?_⟩; simp only [ctP,ctTr] at *; omega)) ?_ | refine oT (fun g8=>?_) (fun g8=>?_) | refine oE (fun g8=>?_) (fun g8=>?_))
  all_goals
   refine hK11 _ ?_
   refine AWP_cond rfl ?_ ?_
   ·
    intro c1
    try simp only [zA,zB,zC,zD,zE,zF,zG,zH,zI] at c1
    all_goals
     all_goals first | (cases c1; done) | (simp at c1; done) | omega
   ·
    intro c1
    try simp only [zA,zB,zC,zD,zE,zF,zG,zH,zI] at c1
    all_goals
     refine AWP_skip ?_
     simp only [go_sem]
     refine hK10 _ ?_
     refine oS fun K12 hK12=>?_
     refine oS fun K13 hK13=>?_
     refine AWP_wk (Wk_keep _ [1,2,3,8,9,10,11,12] [148,228,260,276,548,549,550,551,552,553,554,555,612,613,614,615,616,617,618,619,692,693,694,695,696,697,698,699]) ?_
     simp (maxSteps:=2000000) only [go_sem]
     refine oR T_mHx203_ok
       [[],[],[1],[0,1,2],[0,1,2,3]]
       [[916,917,918,919,920,921,922,923,924,925,926,927,928,929,930,931],[],[],[],[]]
       [[],[],[916,917,918,919,920,921,922,923,924,925,926,927,928,929,930,931],[],[]] (by kernel_rfl) (by kernel_rfl) (adrawR_ok (acc:=[]) ?_)
     simp (maxSteps:=2000000) only [hU,eqD_rfl,hn1,hUh0,hUn0,go_sem]
     repeat (with_reducible first | refine oD ?_ | refine And.intro (by first | assumption | exact ⟨by omega,by omega⟩ | (refine ⟨by omega,?_⟩; simp only [ctP,ctTr] at *; omega)) ?_)
     refine hK13 _ ?_
     refine AWP_cond rfl ?_ ?_
     ·
      intro c2
      try simp only [zA,zB,zC,zD,zE,zF,zG,zH,zI] at c2
      all_goals
       all_goals first | (cases c2; done) | (simp at c2; done) | omega
     ·
      intro c2
      try simp only [zA,zB,zC,zD,zE,zF,zG,zH,zI] at c2
      all_goals
       refine AWP_skip ?_
       simp only [go_sem]
       refine hK12 _ ?_
       refine oS fun K14 hK14=>?_
       refine oW T_mHx203_ok ?_
       simp only [hU,eqD_rfl,hn1,hUh0,hUn0,go_sem]
       repeat (with_reducible first | refine oA ?_ | refine And.intro (by first | assumption | exact ⟨by omega,by omega⟩ | (refine ⟨by omega,?_⟩; simp only [ctP,ctTr] at *; omega)) ?_)
       refine hK14 _ ?_
       refine oS fun K15 hK15=>?_
       refine AWP_wk (Wk_keep _ [1,2,3,8,9,10,11,12,13] [148,228,260,276,548,549,550,551,552,553,554,555,612,613,614,615,616,617,618,619,692,693,694,695,696,697,698,699]) ?_
       simp (maxSteps:=2000000) only [go_sem]
       refine oW T_mHx203_ok ?_
       simp only [hU,eqD_rfl,hn1,hUh0,hUn0,go_sem]
       repeat (with_reducible first | refine oA ?_ | refine And.intro (by first | assumption | exact ⟨by omega,by omega⟩ | (refine ⟨by omega,?_⟩; simp only [ctP,ctTr] at *; omega)) ?_)
       refine hK15 _ ?_
       refine oS fun K16 hK16=>?_
       refine oS fun K17 hK17=>?_
       refine AWP_wk (Wk_keep _ [1,2,3,8,9,11,12,13] [148,228,276,548,549,550,551,552,553,554,555,692,693,694,695,696,697,698,699,996,997,998,999,1000,1001,1002,1003]) ?_
       simp (maxSteps:=2000000) only [go_sem]
       refine oW T_mHx203_ok ?_
       simp (maxSteps:=2000000) only [hU,eqD_rfl,hn1,hUh0,hUn0,go_sem]
       repeat' (with_reducible first | refine oA ?_ | refine And.intro (by first | assumption | exact ⟨by omega,by omega⟩ | (refine ⟨by omega,?_⟩; simp only [ctP,ctTr] at *; omega)) ?_ | refine oT (fun g14=>?_) (fun g14=>?_) | refine oE (fun g14=>?_) (fun g14=>?_))
       all_goals
        refine hK17 _ ?_
        refine AWP_cond rfl ?_ ?_
        ·
         intro c3
         try simp only [zA,zB,zC,zD,zE,zF,zG,zH,zI] at c3
         all_goals
          all_goals first | (cases c3; done) | (simp at c3; done) | omega
        ·
         intro c3
         try simp only [zA,zB,zC,zD,zE,zF,zG,zH,zI] at c3
         all_goals
          refine AWP_skip ?_
          simp only [go_sem]
          refine hK16 _ ?_
          refine oS fun K18 hK18=>?_
          refine oW T_mHx203_ok ?_
          simp only [hU,eqD_rfl,hn1,hUh0,hUn0,go_sem]
          repeat (with_reducible first | refine oA ?_ | refine And.intro (by first | assumption | exact ⟨by omega,by omega⟩ | (refine ⟨by omega,?_⟩; simp only [ctP,ctTr] at *; omega)) ?_)
          refine hK18 _ ?_
          refine oS fun K19 hK19=>?_
          refine AWP_wk (Wk_keep _ [1,2,3,8,9,11,14] [148,228,276,548,549,550,551,552,553,554,555,692,693,694,695,696,697,698,699]) ?_
          simp (maxSteps:=2000000) only [go_sem]
          refine oW T_mHx203_ok ?_
          simp only [hU,eqD_rfl,hn1,hUh0,hUn0,go_sem]
          repeat (with_reducible first | refine oA ?_ | refine And.intro (by first | assumption | exact ⟨by omega,by omega⟩ | (refine ⟨by omega,?_⟩; simp only [ctP,ctTr] at *; omega)) ?_)
          refine hK19 _ ?_
          refine oS fun K20 hK20=>?_
          refine oW T_mHx203_ok ?_
          simp only [hU,eqD_rfl,hn1,hUh0,hUn0,go_sem]
          repeat (with_reducible first | refine oA ?_ | refine And.intro (by first | assumption | exact ⟨by omega,by omega⟩ | (refine ⟨by omega,?_⟩; simp only [ctP,ctTr] at *; omega)) ?_)
          refine hK20 _ ?_
          refine oS fun K21 hK21=>?_
          refine AWP_wk (Wk_keep _ [1,2,3,8,9,11,14,15] [148,228,276,548,549,550,551,552,553,554,555,692,693,694,695,696,697,698,699,1252,1253,1254,1255,1256,1257,1258,1259]) ?_
          simp (maxSteps:=2000000) only [go_sem]
          refine oW T_mHx203_ok ?_
          simp only [hU,eqD_rfl,hn1,hUh0,hUn0,go_sem]
          repeat (with_reducible first | refine oA ?_ | refine And.intro (by first | assumption | exact ⟨by omega,by omega⟩ | (refine ⟨by omega,?_⟩; simp only [ctP,ctTr] at *; omega)) ?_)
          refine hK21 _ ?_
          refine oS fun K22 hK22=>?_
          refine oS fun K23 hK23=>?_
          refine oW T_mHx203_ok ?_
          simp only [hU,eqD_rfl,hn1,hUh0,hUn0,go_sem]
          repeat (with_reducible first | refine oA ?_ | refine And.intro (by first | assumption | exact ⟨by omega,by omega⟩ | (refine ⟨by omega,?_⟩; simp only [ctP,ctTr] at *; omega)) ?_)
          refine hK23 _ ?_
          refine AWP_cond rfl ?_ ?_
          ·
           intro c4
           try simp only [zA,zB,zC,zD,zE,zF,zG,zH,zI] at c4
           all_goals
            all_goals first | (cases c4; done) | (simp at c4; done) | omega
          ·
           intro c4
           try simp only [zA,zB,zC,zD,zE,zF,zG,zH,zI] at c4
           all_goals
            refine AWP_skip ?_
            simp only [go_sem]
            refine hK22 _ ?_
            refine oS fun K24 hK24=>?_
            refine oS fun K25 hK25=>?_
            refine oW T_mHx203_ok ?_
            simp only [hU,eqD_rfl,hn1,hUh0,hUn0,go_sem]
            repeat (with_reducible first | refine oA ?_ | refine And.intro (by first | assumption | exact ⟨by omega,by omega⟩ | (refine ⟨by omega,?_⟩; simp only [ctP,ctTr] at *; omega)) ?_)
            refine hK25 _ ?_
            refine AWP_cond rfl ?_ ?_
            ·
             intro c5
             try simp only [zA,zB,zC,zD,zE,zF,zG,zH,zI] at c5
             all_goals
              all_goals first | (cases c5; done) | (simp at c5; done) | omega
            ·
             intro c5
             try simp only [zA,zB,zC,zD,zE,zF,zG,zH,zI] at c5
             all_goals
              refine AWP_skip ?_
              simp only [go_sem]
              refine hK24 _ ?_
              refine oS fun K26 hK26=>?_
              refine AWP_wk (Wk_keep _ [1,2,3,8,9,11,14] [148,228,276,548,549,550,551,552,553,554,555,692,693,694,695,696,697,698,699,1252,1253,1254,1255,1256,1257,1258,1259]) ?_
              simp (maxSteps:=2000000) only [go_sem]
              refine oW T_mHx203_ok ?_
              simp (maxSteps:=2000000) only [hU,eqD_rfl,hn1,hUh0,hUn0,go_sem]
              repeat (with_reducible first | refine oA ?_ | refine And.intro (by first | assumption | exact ⟨by omega,by omega⟩ | (refine ⟨by omega,?_⟩; simp only [ctP,ctTr] at *; omega)) ?_)
              refine hK26 _ ?_
              refine oS fun K27 hK27=>?_
              refine oS fun K28 hK28=>?_
              refine AWP_wk (Wk_keep _ [8,9,11,14,16,17] [228,276,356,548,549,550,551,552,553,554,555,692,693,694,695,696,697,698,699,1252,1253,1254,1255,1256,1257,1258,1259,1476,1477,1478,1479,1480,1481,1482,1483]) ?_
              simp (maxSteps:=2000000) only [go_sem]
              refine oW T_mHx203_ok ?_
              simp (maxSteps:=2000000) only [hU,eqD_rfl,hn1,hUh0,hUn0,go_sem]
              repeat' (with_reducible first | refine oA ?_ | refine And.intro (by first | assumption | exact ⟨by omega,by omega⟩ | (refine ⟨by omega,?_⟩; simp only [ctP,ctTr] at *; omega)) ?_ | refine oT (fun g25=>?_) (fun g25=>?_) | refine oE (fun g25=>?_) (fun g25=>?_))
              all_goals
               refine hK28 _ ?_
               refine AWP_cond rfl ?_ ?_
               ·
                intro c6
                try simp only [zA,zB,zC,zD,zE,zF,zG,zH,zI] at c6
                all_goals
                 all_goals first | (cases c6; done) | (simp at c6; done) | omega
               ·
                intro c6
                try simp only [zA,zB,zC,zD,zE,zF,zG,zH,zI] at c6
                all_goals
                 refine AWP_skip ?_
                 simp only [go_sem]
                 refine hK27 _ ?_
                 refine oS fun K29 hK29=>?_
                 refine oW T_mHx203_ok ?_
                 simp only [hU,eqD_rfl,hn1,hUh0,hUn0,go_sem]
                 repeat (with_reducible first | refine oA ?_ | refine And.intro (by first | assumption | exact ⟨by omega,by omega⟩ | (refine ⟨by omega,?_⟩; simp only [ctP,ctTr] at *; omega)) ?_)
                 refine hK29 _ ?_
                 refine oS fun K30 hK30=>?_
                 refine AWP_wk (Wk_keep _ [11,14,15] [276,692,693,694,695,696,697,698,699,1252,1253,1254,1255,1256,1257,1258,1259]) ?_
                 simp (maxSteps:=2000000) only [go_sem]
                 refine oW T_mHx203_ok ?_
                 simp only [hU,eqD_rfl,hn1,hUh0,hUn0,go_sem]
                 repeat (with_reducible first | refine oA ?_ | refine And.intro (by first | assumption | exact ⟨by omega,by omega⟩ | (refine ⟨by omega,?_⟩; simp only [ctP,ctTr] at *; omega)) ?_)
                 refine hK30 _ ?_
                 refine oS fun K31 hK31=>?_
                 refine oS fun K32 hK32=>?_
                 refine oW T_mHx203_ok ?_
                 simp only [hU,eqD_rfl,hn1,hUh0,hUn0,go_sem]
                 repeat (with_reducible first | refine oA ?_ | refine And.intro (by first | assumption | exact ⟨by omega,by omega⟩ | (refine ⟨by omega,?_⟩; simp only [ctP,ctTr] at *; omega)) ?_)
                 refine hK32 _ ?_
                 refine AWP_cond rfl ?_ ?_
                 ·
                  intro c7
                  try simp only [zA,zB,zC,zD,zE,zF,zG,zH,zI] at c7
                  all_goals
                   all_goals first | (cases c7; done) | (simp at c7; done) | omega
                 ·
                  intro c7
                  try simp only [zA,zB,zC,zD,zE,zF,zG,zH,zI] at c7
                  all_goals
                   refine AWP_skip ?_
                   simp only [go_sem]
                   refine hK31 _ ?_
                   refine oS fun K33 hK33=>?_
                   refine oS fun K34 hK34=>?_
                   refine oW T_mHx203_ok ?_
                   simp only [hU,eqD_rfl,hn1,hUh0,hUn0,go_sem]
                   repeat (with_reducible first | refine oA ?_ | refine And.intro (by first | assumption | exact ⟨by omega,by omega⟩ | (refine ⟨by omega,?_⟩; simp only [ctP,ctTr] at *; omega)) ?_)
                   refine hK34 _ ?_
                   refine AWP_cond rfl ?_ ?_
                   ·
                    intro c8
                    try simp only [zA,zB,zC,zD,zE,zF,zG,zH,zI] at c8
                    all_goals
                     all_goals first | (cases c8; done) | (simp at c8; done) | omega
                   ·
                    intro c8
                    try simp only [zA,zB,zC,zD,zE,zF,zG,zH,zI] at c8
                    all_goals
                     refine AWP_skip ?_
                     simp only [go_sem]
                     refine hK33 _ ?_
                     refine oS fun K35 hK35=>?_
                     refine oW T_mHx203_ok ?_
                     simp only [hU,eqD_rfl,hn1,hUh0,hUn0,go_sem]
                     repeat (with_reducible first | refine oA ?_ | refine And.intro (by first | assumption | exact ⟨by omega,by omega⟩ | (refine ⟨by omega,?_⟩; simp only [ctP,ctTr] at *; omega)) ?_)
                     refine hK35 _ ?_
                     refine AWP_ret ?_
                     simp only [hres,go_sem]
                     first | exact oF | exact oFr
def T_lawTrn:Tab:=fun f=>if f=6 then some (.p K_lawTrn) else T_mHx203 f
attribute [go_sem] T_lawTrn K_lawTrn
end Go.Proofs.YtflaacndokbddaaGreat
