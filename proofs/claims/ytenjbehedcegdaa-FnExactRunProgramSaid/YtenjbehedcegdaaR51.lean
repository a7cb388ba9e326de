/-
  Texts of this claim, joined (part 51). No condition beyond those of the theorems.
-/
import Derived.Test.YtenjbehedcegdaaR10
import Derived.Test.YtenjbehedcegdaaR12
import Derived.Test.YtenjbehedcegdaaR14
import Derived.Test.YtenjbehedcegdaaR37
import Derived.Test.YtenjbehedcegdaaR50
import Derived.Test.YtenjbehedcegdaaR02
namespace Go.Proofs.Ytenjbehedcegdaa
open Go.RowKit
set_option linter.unusedSimpArgs false
set_option linter.unusedVariables false
set_option maxRecDepth 100000
set_option maxHeartbeats 1000000
def T_mHx300:Tab:=fun f=>match T_toPg f with
 | some k=>some k
 | none=>T_eqG f
theorem T_mHx300_ok:TabOk Try.prog T_mHx300:=tabM T_toPg_ok T_eqG_ok
attribute [go_sem] T_mHx300 T0
def T_mHx301:Tab:=fun f=>match T_mHx300 f with
 | some k=>some k
 | none=>T_markG f
theorem T_mHx301_ok:TabOk Try.prog T_mHx301:=tabM T_mHx300_ok T_markG_ok
attribute [go_sem] T_mHx301 T0
def T_mHx302:Tab:=fun f=>match T_mHx301 f with
 | some k=>some k
 | none=>T_specRun f
theorem T_mHx302_ok:TabOk Try.prog T_mHx302:=tabM T_mHx301_ok T_specRun_ok
attribute [go_sem] T_mHx302 T0
def T_mHx303:Tab:=fun f=>match T_mHx302 f with
 | some k=>some k
 | none=>T_implRun f
theorem T_mHx303_ok:TabOk Try.prog T_mHx303:=tabM T_mHx302_ok T_implRun_ok
attribute [go_sem] T_mHx303 T0
def K_lawRun:Con:=⟨[.val ((.prod (.int .i64) (.prod (.int .i64) (.prod (.row 24 (.row 2 (.int .i64))) (.prod (.row 73 (.prod (.int .i64) (.prod (.int .i64) (.prod (.int .i64) (.prod (.int .i64) (.prod (.row 2 (.int .i64)) (.int .i64))))))) (.row 2 (.int .i64))))))),.val ((.row 24 (.row 2 (.int .i64)))),.val (.int .i64)],[⟨.bool,true⟩],fun _=>True,fun _=>true⟩
theorem lawRun_ok : PureT Try.prog 3 K_lawRun := by
  refine pure_of_body Try.func3 rfl ?_
  have hres:Try.f3.results.toList=[.tmp 6]:=rfl
  rintro⟨⟨(gi:Int),(gr:Int),(ts:List (List Int)),(xs:List InstrD),(os:List Int)⟩,(ins:List (List Int)),(nn:Int),_⟩ hc hL
  simp only[K_lawRun,go_sem] at hL
  simp only[K_lawRun,St.init,St.initG,Try.ntmps3,go_sem] 
  obtain⟨U,hU⟩:∃U,runR (gi,gr,ts,xs,os) ins nn=U:=⟨_,rfl⟩
  have hUb0:cntA List.length U.1≤1000000:=by rw[←hU];exact runR_bd _ _ _
  have hUh0:heldA markL List.length (1) (markLL (1) U.1)=1+((cntA List.length U.1:Nat):Int):=heldA_mark (fun _ _=>markA_len) markL_idem
  have hUm0:mkOk (1) (cntA List.length (markLL (1) U.1)):=by rw[markA_cnt (fun (_:Int) (_:List Int)=>(markA_len:(markL _ _).length=_))];exact⟨by omega,by omega⟩
  have hUn0:decide (1+((cntA List.length U.1:Nat):Int) < 0)=false:=decide_eq_false (by omega)
  refine oS fun _ hK1=>?_
  refine AWP_wk (Wk_keep _ [0,1,2] []) ?_
  simp (maxSteps:=2000000)only[go_sem]
  refine oW T_mHx303_ok ?_
  simp only[go_sem]
  repeat(with_reducible first|refine oA ?_|refine And.intro (by first|assumption|exact⟨by omega,by omega⟩|(refine⟨by omega,?_⟩;simp only[ctP] at *;omega)) ?_)
  refine hK1 _ ?_
  refine oS fun _ hK2=>?_
  refine oW T_mHx303_ok ?_
  simp only[go_sem]
  repeat(with_reducible first|refine oA ?_|refine And.intro (by first|assumption|exact⟨by omega,by omega⟩|(refine⟨by omega,?_⟩;simp only[ctP] at *;omega)) ?_)
  refine hK2 _ ?_
  refine oS fun _ hK3=>?_
  refine AWP_wk (Wk_keep _ [1,2,3,7] [148]) ?_
  simp (maxSteps:=2000000)only[go_sem]
  refine oW T_mHx303_ok ?_
  simp only[go_sem]
  repeat(with_reducible first|refine oA ?_|refine And.intro (by first|assumption|exact⟨by omega,by omega⟩|(refine⟨by omega,?_⟩;simp only[ctP] at *;omega)) ?_)
  refine hK3 _ ?_
  refine oS fun _ hK4=>?_
  refine oS fun _ hK5=>?_
  refine oW T_mHx303_ok ?_
  simp only[go_sem]
  repeat(with_reducible first|refine oA ?_|refine And.intro (by first|assumption|exact⟨by omega,by omega⟩|(refine⟨by omega,?_⟩;simp only[ctP] at *;omega)) ?_)
  refine hK5 _ ?_
  refine oC rfl ?_ ?_
  ·
   intro c0
   refine oS fun _ hK6=>?_
   refine oW T_mHx303_ok ?_
   simp only[go_sem]
   repeat(with_reducible first|refine oA ?_|refine And.intro (by first|assumption|exact⟨by omega,by omega⟩|(refine⟨by omega,?_⟩;simp only[ctP] at *;omega)) ?_)
   refine hK6 _ ?_
   refine AWP_ret ?_
   simp only[hres,go_sem]
   first|exact oF|exact oFr
  intro c0
  obtain⟨e0,e0'⟩:=szR_ge' c0
  have f0:fitsG (gi,gr,ts,xs,os):=fitsG_sz (by omega)
  have g0:=ctG_le (gi,gr,ts,xs,os)
  have hz0:ctG (0,0,ts,xs,os)=ctG (gi,gr,ts,xs,os):=rfl
  refine AWP_skip ?_
  simp only[go_sem]
  refine hK4 _ ?_
  refine oS fun _ hK7=>?_
  refine AWP_wk (Wk_keep _ [1,2,3,7] [148,436,437,438,439,440,441,442,443]) ?_
  simp (maxSteps:=2000000)only[go_sem]
  refine oW T_mHx303_ok ?_
  simp only[go_sem]
  repeat(with_reducible first|refine oA ?_|refine And.intro (by first|assumption|exact⟨by omega,by omega⟩|(refine⟨by omega,?_⟩;simp only[ctP] at *;omega)) ?_)
  refine hK7 _ ?_
  refine oS fun _ hK8=>?_
  refine oS fun _ hK9=>?_
  refine oW T_mHx303_ok ?_
  simp only[go_sem]
  repeat(with_reducible first|refine oA ?_|refine And.intro (by first|assumption|exact⟨by omega,by omega⟩|(refine⟨by omega,?_⟩;simp only[ctP] at *;omega)) ?_)
  refine hK9 _ ?_
  refine oC rfl ?_ ?_
  ·
   intro c1
   refine oS fun _ hK10=>?_
   refine oW T_mHx303_ok ?_
   simp only[go_sem]
   repeat(with_reducible first|refine oA ?_|refine And.intro (by first|assumption|exact⟨by omega,by omega⟩|(refine⟨by omega,?_⟩;simp only[ctP] at *;omega)) ?_)
   refine hK10 _ ?_
   refine AWP_ret ?_
   simp only[hres,go_sem]
   first|exact oF|exact oFr
  intro c1
  obtain⟨e1,e1'⟩:=szR_ge' c1
  have f1:fitsL ins:=fitsL_sz (by omega)
  have g1:=cnt_sz ins
  have hn1:decide (1+(ctG (0,0,ts,xs,os):Int)+((cntA List.length ins:Nat):Int) < 0)=false:=decide_eq_false (by omega)
  refine AWP_skip ?_
  simp only[go_sem]
  refine hK8 _ ?_
  refine oS fun _ hK11=>?_
  refine AWP_wk (Wk_keep _ [1,2,3] [148]) ?_
  simp (maxSteps:=2000000)only[go_sem]
  refine oW T_mHx303_ok ?_
  simp (maxSteps:=2000000)only[hU,eqD_rfl,hn1,hUh0,hUn0,go_sem]
  repeat(with_reducible first|refine oA ?_|refine And.intro (by first|assumption|exact⟨by omega,by omega⟩|(refine⟨by omega,?_⟩;simp only[ctP] at *;omega)) ?_)
  refine hK11 _ ?_
  refine oS fun _ hK12=>?_
  refine AWP_wk (Wk_keep _ [1,2,3,8,9] [148,660,661,662,663,664,665,666,667]) ?_
  simp (maxSteps:=2000000)only[go_sem]
  refine oW T_mHx303_ok ?_
  simp only[hU,eqD_rfl,hn1,hUh0,hUn0,go_sem]
  repeat(with_reducible first|refine oA ?_|refine And.intro (by first|assumption|exact⟨by omega,by omega⟩|(refine⟨by omega,?_⟩;simp only[ctP] at *;omega)) ?_)
  refine hK12 _ ?_
  refine oS fun _ hK13=>?_
  refine AWP_wk (Wk_keep _ [1,2,3,8,9,10] [148,260,660,661,662,663,664,665,666,667,724,725,726,727,728,729,730,731]) ?_
  simp (maxSteps:=2000000)only[go_sem]
  refine oW T_mHx303_ok ?_
  simp only[hU,eqD_rfl,hn1,hUh0,hUn0,go_sem]
  repeat(with_reducible first|refine oA ?_|refine And.intro (by first|assumption|exact⟨by omega,by omega⟩|(refine⟨by omega,?_⟩;simp only[ctP] at *;omega)) ?_)
  refine hK13 _ ?_
  refine oS fun _ hK14=>?_
  refine AWP_wk (Wk_keep _ [1,2,3,8,9,10,11] [148,260,660,661,662,663,664,665,666,667,724,725,726,727,728,729,730,731,756,757,758,759,760,761,762,763]) ?_
  simp (maxSteps:=2000000)only[go_sem]
  refine oW T_mHx303_ok ?_
  simp (maxSteps:=2000000)only[hU,eqD_rfl,hn1,hUh0,hUn0,go_sem]
  repeat(with_reducible first|refine oA ?_|refine And.intro (by first|assumption|exact⟨by omega,by omega⟩|(refine⟨by omega,?_⟩;simp only[ctP] at *;omega)) ?_)
  refine hK14 _ ?_
  refine oS fun _ hK15=>?_
  refine oS fun _ hK16=>?_
  refine AWP_wk (Wk_keep _ [1,2,3,8,9,10,11,12,13] [148,260,660,661,662,663,664,665,666,667,724,725,726,727,728,729,730,731,756,757,758,759,760,761,762,763,836,837,838,839,840,841,842,843]) ?_
  simp (maxSteps:=2000000)only[go_sem]
  refine oW T_mHx303_ok ?_
  simp (maxSteps:=2000000)only[hU,eqD_rfl,hn1,hUh0,hUn0,go_sem]
  repeat' (with_reducible first|refine oA ?_|refine And.intro (by first|assumption|exact⟨by omega,by omega⟩|(refine⟨by omega,?_⟩;simp only[ctP] at *;omega)) ?_|refine oT (fun g12=>?_) (fun g12=>?_)|refine oE (fun g12=>?_) (fun g12=>?_))
  all_goals
   refine hK16 _ ?_
   refine AWP_cond rfl ?_ ?_
   ·
    intro c2
    try simp only[zA,zB,zC,zD,zE,zF,zG,zH,zI] at c2
    all_goals
     all_goals first|(cases c2;done)|(simp at c2;done)|omega
   ·
    intro c2
    try simp only[zA,zB,zC,zD,zE,zF,zG,zH,zI] at c2
    all_goals
     refine AWP_skip ?_
     simp only[go_sem]
     refine hK15 _ ?_
     refine oS fun _ hK17=>?_
     refine oS fun _ hK18=>?_
     refine AWP_wk (Wk_keep _ [1,2,3,8,9,10,11,12,13] [148,260,660,661,662,663,664,665,666,667,724,725,726,727,728,729,730,731,756,757,758,759,760,761,762,763,836,837,838,839,840,841,842,843]) ?_
     simp (maxSteps:=2000000)only[go_sem]
     refine oR T_mHx303_ok
       [[],[],[1],[0,1,2],[0,1,2,3]]
       [[1060,1061,1062,1063,1064,1065,1066,1067,1068,1069,1070,1071,1072,1073,1074,1075],[],[],[],[]]
       [[],[],[1060,1061,1062,1063,1064,1065,1066,1067,1068,1069,1070,1071,1072,1073,1074,1075],[],[]] (by kernel_rfl) (by kernel_rfl) (adrawR_ok (acc:=[]) ?_)
     simp (maxSteps:=2000000)only[hU,eqD_rfl,hn1,hUh0,hUn0,go_sem]
     repeat(with_reducible first|refine oD ?_|refine And.intro (by first|assumption|exact⟨by omega,by omega⟩|(refine⟨by omega,?_⟩;simp only[ctP] at *;omega)) ?_)
     refine hK18 _ ?_
     refine AWP_cond rfl ?_ ?_
     ·
      intro c3
      try simp only[zA,zB,zC,zD,zE,zF,zG,zH,zI] at c3
      all_goals
       all_goals first|(cases c3;done)|(simp at c3;done)|omega
     ·
      intro c3
      try simp only[zA,zB,zC,zD,zE,zF,zG,zH,zI] at c3
      all_goals
       refine AWP_skip ?_
       simp only[go_sem]
       refine hK17 _ ?_
       refine oS fun _ hK19=>?_
       refine oS fun _ hK20=>?_
       refine AWP_wk (Wk_keep _ [1,2,3,8,9,10,11,12,13] [148,260,660,661,662,663,664,665,666,667,724,725,726,727,728,729,730,731,756,757,758,759,760,761,762,763,836,837,838,839,840,841,842,843]) ?_
       simp (maxSteps:=2000000)only[go_sem]
       refine oW T_mHx303_ok ?_
       simp (maxSteps:=2000000)only[hU,eqD_rfl,hn1,hUh0,hUn0,go_sem]
       repeat(with_reducible first|refine oA ?_|refine And.intro (by first|assumption|exact⟨by omega,by omega⟩|(refine⟨by omega,?_⟩;simp only[ctP] at *;omega)) ?_)
       refine hK20 _ ?_
       refine AWP_cond rfl ?_ ?_
       ·
        intro c4
        try simp only[zA,zB,zC,zD,zE,zF,zG,zH,zI] at c4
        all_goals
         all_goals first|(cases c4;done)|(simp at c4;done)|omega
       ·
        intro c4
        try simp only[zA,zB,zC,zD,zE,zF,zG,zH,zI] at c4
        all_goals
         refine AWP_skip ?_
         simp only[go_sem]
         refine hK19 _ ?_
         refine oS fun _ hK21=>?_
         refine oW T_mHx303_ok ?_
         simp only[hU,eqD_rfl,hn1,hUh0,hUn0,go_sem]
         repeat(with_reducible first|refine oA ?_|refine And.intro (by first|assumption|exact⟨by omega,by omega⟩|(refine⟨by omega,?_⟩;simp only[ctP] at *;omega)) ?_)
         refine hK21 _ ?_
         refine oS fun _ hK22=>?_
         refine AWP_wk (Wk_keep _ [1,2,3,8,9,10,11,12,13,14] [148,260,660,661,662,663,664,665,666,667,724,725,726,727,728,729,730,731,756,757,758,759,760,761,762,763,836,837,838,839,840,841,842,843]) ?_
         simp (maxSteps:=2000000)only[go_sem]
         refine oW T_mHx303_ok ?_
         simp only[hU,eqD_rfl,hn1,hUh0,hUn0,go_sem]
         repeat(with_reducible first|refine oA ?_|refine And.intro (by first|assumption|exact⟨by omega,by omega⟩|(refine⟨by omega,?_⟩;simp only[ctP] at *;omega)) ?_)
         refine hK22 _ ?_
         refine oS fun _ hK23=>?_
         refine AWP_wk (Wk_keep _ [1,2,3,8,9,11,12,13,14] [148,660,661,662,663,664,665,666,667,756,757,758,759,760,761,762,763,836,837,838,839,840,841,842,843,1220,1221,1222,1223,1224,1225,1226,1227]) ?_
         simp (maxSteps:=2000000)only[go_sem]
         refine oW T_mHx303_ok ?_
         simp only[hU,eqD_rfl,hn1,hUh0,hUn0,go_sem]
         repeat(with_reducible first|refine oA ?_|refine And.intro (by first|assumption|exact⟨by omega,by omega⟩|(refine⟨by omega,?_⟩;simp only[ctP] at *;omega)) ?_)
         refine hK23 _ ?_
         refine oS fun _ hK24=>?_
         refine oS fun _ hK25=>?_
         refine AWP_wk (Wk_keep _ [1,2,3,8,9,12,13,14] [148,660,661,662,663,664,665,666,667,836,837,838,839,840,841,842,843,1268,1269,1270,1271,1272,1273,1274,1275]) ?_
         simp (maxSteps:=2000000)only[go_sem]
         refine oW T_mHx303_ok ?_
         simp (maxSteps:=2000000)only[hU,eqD_rfl,hn1,hUh0,hUn0,go_sem]
         repeat' (with_reducible first|refine oA ?_|refine And.intro (by first|assumption|exact⟨by omega,by omega⟩|(refine⟨by omega,?_⟩;simp only[ctP] at *;omega)) ?_|refine oT (fun g21=>?_) (fun g21=>?_)|refine oE (fun g21=>?_) (fun g21=>?_))
         all_goals
          refine hK25 _ ?_
          refine AWP_cond rfl ?_ ?_
          ·
           intro c5
           try simp only[zA,zB,zC,zD,zE,zF,zG,zH,zI] at c5
           all_goals
            all_goals first|(cases c5;done)|(simp at c5;done)|omega
          ·
           intro c5
           try simp only[zA,zB,zC,zD,zE,zF,zG,zH,zI] at c5
           all_goals
            refine AWP_skip ?_
            simp only[go_sem]
            refine hK24 _ ?_
            refine oS fun _ hK26=>?_
            refine oW T_mHx303_ok ?_
            simp only[hU,eqD_rfl,hn1,hUh0,hUn0,go_sem]
            repeat(with_reducible first|refine oA ?_|refine And.intro (by first|assumption|exact⟨by omega,by omega⟩|(refine⟨by omega,?_⟩;simp only[ctP] at *;omega)) ?_)
            refine hK26 _ ?_
            refine oS fun _ hK27=>?_
            refine AWP_wk (Wk_keep _ [1,2,3,8,9,12,15] [148,660,661,662,663,664,665,666,667,836,837,838,839,840,841,842,843]) ?_
            simp (maxSteps:=2000000)only[go_sem]
            refine oW T_mHx303_ok ?_
            simp only[hU,eqD_rfl,hn1,hUh0,hUn0,go_sem]
            repeat(with_reducible first|refine oA ?_|refine And.intro (by first|assumption|exact⟨by omega,by omega⟩|(refine⟨by omega,?_⟩;simp only[ctP] at *;omega)) ?_)
            refine hK27 _ ?_
            refine oS fun _ hK28=>?_
            refine oW T_mHx303_ok ?_
            simp only[hU,eqD_rfl,hn1,hUh0,hUn0,go_sem]
            repeat(with_reducible first|refine oA ?_|refine And.intro (by first|assumption|exact⟨by omega,by omega⟩|(refine⟨by omega,?_⟩;simp only[ctP] at *;omega)) ?_)
            refine hK28 _ ?_
            refine oS fun _ hK29=>?_
            refine AWP_wk (Wk_keep _ [1,2,3,8,9,12,15,16] [148,660,661,662,663,664,665,666,667,836,837,838,839,840,841,842,843,1524,1525,1526,1527,1528,1529,1530,1531]) ?_
            simp (maxSteps:=2000000)only[go_sem]
            refine oW T_mHx303_ok ?_
            simp only[hU,eqD_rfl,hn1,hUh0,hUn0,go_sem]
            repeat(with_reducible first|refine oA ?_|refine And.intro (by first|assumption|exact⟨by omega,by omega⟩|(refine⟨by omega,?_⟩;simp only[ctP] at *;omega)) ?_)
            refine hK29 _ ?_
            refine oS fun _ hK30=>?_
            refine oS fun _ hK31=>?_
            refine oW T_mHx303_ok ?_
            simp only[hU,eqD_rfl,hn1,hUh0,hUn0,go_sem]
            repeat(with_reducible first|refine oA ?_|refine And.intro (by first|assumption|exact⟨by omega,by omega⟩|(refine⟨by omega,?_⟩;simp only[ctP] at *;omega)) ?_)
            refine hK31 _ ?_
            refine AWP_cond rfl ?_ ?_
            ·
             intro c6
             try simp only[zA,zB,zC,zD,zE,zF,zG,zH,zI] at c6
             all_goals
              all_goals first|(cases c6;done)|(simp at c6;done)|omega
            ·
             intro c6
             try simp only[zA,zB,zC,zD,zE,zF,zG,zH,zI] at c6
             all_goals
              refine AWP_skip ?_
              simp only[go_sem]
              refine hK30 _ ?_
              refine oS fun _ hK32=>?_
              refine oS fun _ hK33=>?_
              refine oW T_mHx303_ok ?_
              simp only[hU,eqD_rfl,hn1,hUh0,hUn0,go_sem]
              repeat(with_reducible first|refine oA ?_|refine And.intro (by first|assumption|exact⟨by omega,by omega⟩|(refine⟨by omega,?_⟩;simp only[ctP] at *;omega)) ?_)
              refine hK33 _ ?_
              refine AWP_cond rfl ?_ ?_
              ·
               intro c7
               try simp only[zA,zB,zC,zD,zE,zF,zG,zH,zI] at c7
               all_goals
                all_goals first|(cases c7;done)|(simp at c7;done)|omega
              ·
               intro c7
               try simp only[zA,zB,zC,zD,zE,zF,zG,zH,zI] at c7
               all_goals
                refine AWP_skip ?_
                simp only[go_sem]
                refine hK32 _ ?_
                refine oS fun _ hK34=>?_
                refine AWP_wk (Wk_keep _ [1,2,3,8,9,12,15] [148,660,661,662,663,664,665,666,667,836,837,838,839,840,841,842,843,1524,1525,1526,1527,1528,1529,1530,1531]) ?_
                simp (maxSteps:=2000000)only[go_sem]
                refine oW T_mHx303_ok ?_
                simp (maxSteps:=2000000)only[hU,eqD_rfl,hn1,hUh0,hUn0,go_sem]
                repeat(with_reducible first|refine oA ?_|refine And.intro (by first|assumption|exact⟨by omega,by omega⟩|(refine⟨by omega,?_⟩;simp only[ctP] at *;omega)) ?_)
                refine hK34 _ ?_
                refine oS fun _ hK35=>?_
                refine oS fun _ hK36=>?_
                refine AWP_wk (Wk_keep _ [8,9,12,15,17,18] [660,661,662,663,664,665,666,667,836,837,838,839,840,841,842,843,1524,1525,1526,1527,1528,1529,1530,1531,1764,1765,1766,1767,1768,1769,1770,1771]) ?_
                simp (maxSteps:=2000000)only[go_sem]
                refine oW T_mHx303_ok ?_
                simp (maxSteps:=2000000)only[hU,eqD_rfl,hn1,hUh0,hUn0,go_sem]
                repeat' (with_reducible first|refine oA ?_|refine And.intro (by first|assumption|exact⟨by omega,by omega⟩|(refine⟨by omega,?_⟩;simp only[ctP] at *;omega)) ?_|refine oT (fun g32=>?_) (fun g32=>?_)|refine oE (fun g32=>?_) (fun g32=>?_))
                all_goals
                 refine hK36 _ ?_
                 refine AWP_cond rfl ?_ ?_
                 ·
                  intro c8
                  try simp only[zA,zB,zC,zD,zE,zF,zG,zH,zI] at c8
                  all_goals
                   all_goals first|(cases c8;done)|(simp at c8;done)|omega
                 ·
                  intro c8
                  try simp only[zA,zB,zC,zD,zE,zF,zG,zH,zI] at c8
                  all_goals
                   refine AWP_skip ?_
                   simp only[go_sem]
                   refine hK35 _ ?_
                   refine oS fun _ hK37=>?_
                   refine oW T_mHx303_ok ?_
                   simp only[hU,eqD_rfl,hn1,hUh0,hUn0,go_sem]
                   repeat(with_reducible first|refine oA ?_|refine And.intro (by first|assumption|exact⟨by omega,by omega⟩|(refine⟨by omega,?_⟩;simp only[ctP] at *;omega)) ?_)
                   refine hK37 _ ?_
                   refine oS fun _ hK38=>?_
                   refine AWP_wk (Wk_keep _ [12,15,16] [836,837,838,839,840,841,842,843,1524,1525,1526,1527,1528,1529,1530,1531]) ?_
                   simp (maxSteps:=2000000)only[go_sem]
                   refine oW T_mHx303_ok ?_
                   simp only[hU,eqD_rfl,hn1,hUh0,hUn0,go_sem]
                   repeat(with_reducible first|refine oA ?_|refine And.intro (by first|assumption|exact⟨by omega,by omega⟩|(refine⟨by omega,?_⟩;simp only[ctP] at *;omega)) ?_)
                   refine hK38 _ ?_
                   refine oS fun _ hK39=>?_
                   refine oS fun _ hK40=>?_
                   refine oW T_mHx303_ok ?_
                   simp only[hU,eqD_rfl,hn1,hUh0,hUn0,go_sem]
                   repeat(with_reducible first|refine oA ?_|refine And.intro (by first|assumption|exact⟨by omega,by omega⟩|(refine⟨by omega,?_⟩;simp only[ctP] at *;omega)) ?_)
                   refine hK40 _ ?_
                   refine AWP_cond rfl ?_ ?_
                   ·
                    intro c9
                    try simp only[zA,zB,zC,zD,zE,zF,zG,zH,zI] at c9
                    all_goals
                     all_goals first|(cases c9;done)|(simp at c9;done)|omega
                   ·
                    intro c9
                    try simp only[zA,zB,zC,zD,zE,zF,zG,zH,zI] at c9
                    all_goals
                     refine AWP_skip ?_
                     simp only[go_sem]
                     refine hK39 _ ?_
                     refine oS fun _ hK41=>?_
                     refine oS fun _ hK42=>?_
                     refine oW T_mHx303_ok ?_
                     simp only[hU,eqD_rfl,hn1,hUh0,hUn0,go_sem]
                     repeat(with_reducible first|refine oA ?_|refine And.intro (by first|assumption|exact⟨by omega,by omega⟩|(refine⟨by omega,?_⟩;simp only[ctP] at *;omega)) ?_)
                     refine hK42 _ ?_
                     refine AWP_cond rfl ?_ ?_
                     ·
                      intro c10
                      try simp only[zA,zB,zC,zD,zE,zF,zG,zH,zI] at c10
                      all_goals
                       all_goals first|(cases c10;done)|(simp at c10;done)|omega
                     ·
                      intro c10
                      try simp only[zA,zB,zC,zD,zE,zF,zG,zH,zI] at c10
                      all_goals
                       refine AWP_skip ?_
                       simp only[go_sem]
                       refine hK41 _ ?_
                       refine oS fun _ hK43=>?_
                       refine oW T_mHx303_ok ?_
                       simp only[hU,eqD_rfl,hn1,hUh0,hUn0,go_sem]
                       repeat(with_reducible first|refine oA ?_|refine And.intro (by first|assumption|exact⟨by omega,by omega⟩|(refine⟨by omega,?_⟩;simp only[ctP] at *;omega)) ?_)
                       refine hK43 _ ?_
                       refine AWP_ret ?_
                       simp only[hres,go_sem]
                       first|exact oF|exact oFr
def T_lawRun:Tab:=fun f=>if f=3 then some (.p K_lawRun) else T_mHx303 f
attribute [go_sem] T_lawRun K_lawRun
end Go.Proofs.Ytenjbehedcegdaa
