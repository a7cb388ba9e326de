/-
  Texts of this claim, joined (part 27). No condition beyond those of the theorems.
-/
import Derived.Test.YthhogcknkimijaaDoorR22
import Derived.Test.YthhogcknkimijaaDoorR25
import Derived.Test.YthhogcknkimijaaDoorR26
import Derived.Test.YthhogcknkimijaaDoorR02
namespace Go.Proofs.YthhogcknkimijaaDoor
open Go.RowKit
set_option linter.unusedSimpArgs false
set_option linter.unusedVariables false
set_option maxRecDepth 100000
set_option maxHeartbeats 1000000
def T_mHx270:Tab:=fun f=>match T_implRdE f with
 | some k=>some k
 | none=>T_specRdE f
theorem T_mHx270_ok:TabOk Tryd.prog T_mHx270:=tabM T_implRdE_ok T_specRdE_ok
attribute [go_sem] T_mHx270 T0
def T_mHx271:Tab:=fun f=>match T_mHx270 f with
 | some k=>some k
 | none=>T_heldE f
theorem T_mHx271_ok:TabOk Tryd.prog T_mHx271:=tabM T_mHx270_ok T_heldE_ok
attribute [go_sem] T_mHx271 T0
def K_lawRdE:Con:=⟨[.val (.str)],[⟨.bool,true⟩],fun _=>True,fun _=>true⟩
theorem lawRdE_ok:PureT Tryd.prog 4 K_lawRdE:=by
  refine pure_of_body Tryd.func4 rfl ?_
  have hres:Tryd.f4.results.toList=[.tmp 2]:=rfl
  rintro⟨(s:ByteArray),_⟩ hc hL
  simp only[K_lawRdE,go_sem] at hL
  simp only[K_lawRdE,St.init,St.initG,Tryd.ntmps4,go_sem] 
  obtain⟨U,hU⟩:∃U,rdA envB s.data.toList=U:=⟨_,rfl⟩
  have hUb0:U.1.2.1.length≤1000000:=by rw[←hU];exact rdA_bd _
  have hUh0:heldA mkSg ctSg (1) (markSg (1) U.1.2.1)=1+((2 * U.1.2.1.length:Nat):Int):=heldSg_mark _ _
  have hUm0:mkOk (1) (2 * (markSg (1) U.1.2.1).length):=by rw[markA_len];exact⟨by omega,by omega⟩
  have hUn0:decide (1+((2 * U.1.2.1.length:Nat):Int) < 0)=false:=decide_eq_false (by omega)
  refine oS fun _ hK1=>?_
  refine oW T_mHx271_ok ?_
  simp only[go_sem]
  repeat(with_reducible first|refine oA ?_|refine And.intro (by first|assumption|exact⟨by omega,by omega⟩|(refine⟨by omega,?_⟩;simp only[ctP] at *;omega)|omega|assumption) ?_)
  refine hK1 _ ?_
  refine oS fun _ hK2=>?_
  refine oS fun _ hK3=>?_
  refine AWP_wk (Wk_keep _ [0] []) ?_
  simp (maxSteps:=2000000)only[go_sem]
  refine oW T_mHx271_ok ?_
  simp only[go_sem]
  repeat(with_reducible first|refine oA ?_|refine And.intro (by first|assumption|exact⟨by omega,by omega⟩|(refine⟨by omega,?_⟩;simp only[ctP] at *;omega)|omega|assumption) ?_)
  refine hK3 _ ?_
  refine oC rfl ?_ ?_
  ·
   intro c0
   refine oS fun _ hK4=>?_
   refine oW T_mHx271_ok ?_
   simp only[go_sem]
   repeat(with_reducible first|refine oA ?_|refine And.intro (by first|assumption|exact⟨by omega,by omega⟩|(refine⟨by omega,?_⟩;simp only[ctP] at *;omega)|omega|assumption) ?_)
   refine hK4 _ ?_
   refine AWP_ret ?_
   simp only[hres,go_sem]
   first|exact oF|exact oFr
  intro c0
  have hn1:decide (1+(s.data.toList.length:Int) < 0)=false:=decide_eq_false (by omega)
  refine AWP_skip ?_
  simp only[go_sem]
  refine hK2 _ ?_
  refine oS fun _ hK5=>?_
  refine AWP_wk (Wk_keep _ [0] []) ?_
  simp (maxSteps:=2000000)only[go_sem]
  refine oW T_mHx271_ok ?_
  simp (maxSteps:=2000000)only[hU,eqD_rfl,hn1,hUh0,hUn0,go_sem]
  repeat(with_reducible first|refine oA ?_|refine And.intro (by first|assumption|exact⟨by omega,by omega⟩|(refine⟨by omega,?_⟩;simp only[ctP] at *;omega)|omega|assumption) ?_)
  refine hK5 _ ?_
  refine oS fun _ hK6=>?_
  refine AWP_wk (Wk_keep _ [0,3,4] [148,356,357,358,359,360,361,362,363]) ?_
  simp (maxSteps:=2000000)only[go_sem]
  refine oW T_mHx271_ok ?_
  simp (maxSteps:=2000000)only[hU,eqD_rfl,hn1,hUh0,hUn0,go_sem]
  repeat(with_reducible first|refine oA ?_|refine And.intro (by first|assumption|exact⟨by omega,by omega⟩|(refine⟨by omega,?_⟩;simp only[ctP] at *;omega)|omega|assumption) ?_)
  refine hK6 _ ?_
  refine oS fun _ hK7=>?_
  refine oS fun _ hK8=>?_
  refine AWP_wk (Wk_keep _ [0,3,4,5,6] [148,180,356,357,358,359,360,361,362,363,436,437,438,439,440,441,442,443]) ?_
  simp (maxSteps:=2000000)only[go_sem]
  refine oW T_mHx271_ok ?_
  simp (maxSteps:=2000000)only[hU,eqD_rfl,hn1,hUh0,hUn0,go_sem]
  repeat' (with_reducible first|refine oA ?_|refine And.intro (by first|assumption|exact⟨by omega,by omega⟩|(refine⟨by omega,?_⟩;simp only[ctP] at *;omega)|omega|assumption) ?_|refine oT (fun g5=>?_) (fun g5=>?_)|refine oE (fun g5=>?_) (fun g5=>?_))
  all_goals
   refine hK8 _ ?_
   refine AWP_cond rfl ?_ ?_
   ·
    intro c1
    try simp only[zA,zB,zC,zD,zE,zF,zG,zH,zI] at c1
    all_goals
     all_goals first|(cases c1;done)|(simp at c1;done)|omega
   ·
    intro c1
    try simp only[zA,zB,zC,zD,zE,zF,zG,zH,zI] at c1
    all_goals
     refine AWP_skip ?_
     simp only[go_sem]
     refine hK7 _ ?_
     refine oS fun _ hK9=>?_
     refine oW T_mHx271_ok ?_
     simp only[hU,eqD_rfl,hn1,hUh0,hUn0,go_sem]
     repeat(with_reducible first|refine oA ?_|refine And.intro (by first|assumption|exact⟨by omega,by omega⟩|(refine⟨by omega,?_⟩;simp only[ctP] at *;omega)|omega|assumption) ?_)
     refine hK9 _ ?_
     refine oS fun _ hK10=>?_
     refine AWP_wk (Wk_keep _ [0,3,4,5,7] [148,180,356,357,358,359,360,361,362,363,436,437,438,439,440,441,442,443]) ?_
     simp (maxSteps:=2000000)only[go_sem]
     refine oW T_mHx271_ok ?_
     simp only[hU,eqD_rfl,hn1,hUh0,hUn0,go_sem]
     repeat(with_reducible first|refine oA ?_|refine And.intro (by first|assumption|exact⟨by omega,by omega⟩|(refine⟨by omega,?_⟩;simp only[ctP] at *;omega)|omega|assumption) ?_)
     refine hK10 _ ?_
     refine oS fun _ hK11=>?_
     refine oW T_mHx271_ok ?_
     simp only[hU,eqD_rfl,hn1,hUh0,hUn0,go_sem]
     repeat(with_reducible first|refine oA ?_|refine And.intro (by first|assumption|exact⟨by omega,by omega⟩|(refine⟨by omega,?_⟩;simp only[ctP] at *;omega)|omega|assumption) ?_)
     refine hK11 _ ?_
     refine oS fun _ hK12=>?_
     refine AWP_wk (Wk_keep _ [0,3,4,5,7,8] [148,180,356,357,358,359,360,361,362,363,436,437,438,439,440,441,442,443,660,661,662,663,664,665,666,667]) ?_
     simp (maxSteps:=2000000)only[go_sem]
     refine oW T_mHx271_ok ?_
     simp only[hU,eqD_rfl,hn1,hUh0,hUn0,go_sem]
     repeat(with_reducible first|refine oA ?_|refine And.intro (by first|assumption|exact⟨by omega,by omega⟩|(refine⟨by omega,?_⟩;simp only[ctP] at *;omega)|omega|assumption) ?_)
     refine hK12 _ ?_
     refine oS fun _ hK13=>?_
     refine oS fun _ hK14=>?_
     refine oW T_mHx271_ok ?_
     simp only[hU,eqD_rfl,hn1,hUh0,hUn0,go_sem]
     repeat(with_reducible first|refine oA ?_|refine And.intro (by first|assumption|exact⟨by omega,by omega⟩|(refine⟨by omega,?_⟩;simp only[ctP] at *;omega)|omega|assumption) ?_)
     refine hK14 _ ?_
     refine AWP_cond rfl ?_ ?_
     ·
      intro c2
      try simp only[zA,zB,zC,zD,zE,zF,zG,zH,zI] at c2
      all_goals
       all_goals first|(cases c2;done)|(simp at c2;done)|omega
     ·
      intro c2
      try simp only[zA,zB,zC,zD,zE,zF,zG,zH,zI] at c2
      all_goals
       refine AWP_skip ?_
       simp only[go_sem]
       refine hK13 _ ?_
       refine oS fun _ hK15=>?_
       refine oS fun _ hK16=>?_
       refine oW T_mHx271_ok ?_
       simp only[hU,eqD_rfl,hn1,hUh0,hUn0,go_sem]
       repeat(with_reducible first|refine oA ?_|refine And.intro (by first|assumption|exact⟨by omega,by omega⟩|(refine⟨by omega,?_⟩;simp only[ctP] at *;omega)|omega|assumption) ?_)
       refine hK16 _ ?_
       refine AWP_cond rfl ?_ ?_
       ·
        intro c3
        try simp only[zA,zB,zC,zD,zE,zF,zG,zH,zI] at c3
        all_goals
         all_goals first|(cases c3;done)|(simp at c3;done)|omega
       ·
        intro c3
        try simp only[zA,zB,zC,zD,zE,zF,zG,zH,zI] at c3
        all_goals
         refine AWP_skip ?_
         simp only[go_sem]
         refine hK15 _ ?_
         refine oS fun _ hK17=>?_
         refine AWP_wk (Wk_keep _ [0,3,4,5,7] [148,180,356,357,358,359,360,361,362,363,436,437,438,439,440,441,442,443,660,661,662,663,664,665,666,667]) ?_
         simp (maxSteps:=2000000)only[go_sem]
         refine oW T_mHx271_ok ?_
         simp (maxSteps:=2000000)only[hU,eqD_rfl,hn1,hUh0,hUn0,go_sem]
         repeat(with_reducible first|refine oA ?_|refine And.intro (by first|assumption|exact⟨by omega,by omega⟩|(refine⟨by omega,?_⟩;simp only[ctP] at *;omega)|omega|assumption) ?_)
         refine hK17 _ ?_
         refine oS fun _ hK18=>?_
         refine oS fun _ hK19=>?_
         refine AWP_wk (Wk_keep _ [3,4,5,7,9,10] [148,180,244,356,357,358,359,360,361,362,363,436,437,438,439,440,441,442,443,660,661,662,663,664,665,666,667,836,837,838,839,840,841,842,843]) ?_
         simp (maxSteps:=2000000)only[go_sem]
         refine oW T_mHx271_ok ?_
         simp (maxSteps:=2000000)only[hU,eqD_rfl,hn1,hUh0,hUn0,go_sem]
         repeat' (with_reducible first|refine oA ?_|refine And.intro (by first|assumption|exact⟨by omega,by omega⟩|(refine⟨by omega,?_⟩;simp only[ctP] at *;omega)|omega|assumption) ?_|refine oT (fun g16=>?_) (fun g16=>?_)|refine oE (fun g16=>?_) (fun g16=>?_))
         all_goals
          refine hK19 _ ?_
          refine AWP_cond rfl ?_ ?_
          ·
           intro c4
           try simp only[zA,zB,zC,zD,zE,zF,zG,zH,zI] at c4
           all_goals
            all_goals first|(cases c4;done)|(simp at c4;done)|omega
          ·
           intro c4
           try simp only[zA,zB,zC,zD,zE,zF,zG,zH,zI] at c4
           all_goals
            refine AWP_skip ?_
            simp only[go_sem]
            refine hK18 _ ?_
            refine oS fun _ hK20=>?_
            refine oW T_mHx271_ok ?_
            simp only[hU,eqD_rfl,hn1,hUh0,hUn0,go_sem]
            repeat(with_reducible first|refine oA ?_|refine And.intro (by first|assumption|exact⟨by omega,by omega⟩|(refine⟨by omega,?_⟩;simp only[ctP] at *;omega)|omega|assumption) ?_)
            refine hK20 _ ?_
            refine oS fun _ hK21=>?_
            refine AWP_wk (Wk_keep _ [5,7,8] [180,436,437,438,439,440,441,442,443,660,661,662,663,664,665,666,667]) ?_
            simp (maxSteps:=2000000)only[go_sem]
            refine oW T_mHx271_ok ?_
            simp only[hU,eqD_rfl,hn1,hUh0,hUn0,go_sem]
            repeat(with_reducible first|refine oA ?_|refine And.intro (by first|assumption|exact⟨by omega,by omega⟩|(refine⟨by omega,?_⟩;simp only[ctP] at *;omega)|omega|assumption) ?_)
            refine hK21 _ ?_
            refine oS fun _ hK22=>?_
            refine oS fun _ hK23=>?_
            refine oW T_mHx271_ok ?_
            simp only[hU,eqD_rfl,hn1,hUh0,hUn0,go_sem]
            repeat(with_reducible first|refine oA ?_|refine And.intro (by first|assumption|exact⟨by omega,by omega⟩|(refine⟨by omega,?_⟩;simp only[ctP] at *;omega)|omega|assumption) ?_)
            refine hK23 _ ?_
            refine AWP_cond rfl ?_ ?_
            ·
             intro c5
             try simp only[zA,zB,zC,zD,zE,zF,zG,zH,zI] at c5
             all_goals
              all_goals first|(cases c5;done)|(simp at c5;done)|omega
            ·
             intro c5
             try simp only[zA,zB,zC,zD,zE,zF,zG,zH,zI] at c5
             all_goals
              refine AWP_skip ?_
              simp only[go_sem]
              refine hK22 _ ?_
              refine oS fun _ hK24=>?_
              refine oS fun _ hK25=>?_
              refine oW T_mHx271_ok ?_
              simp only[hU,eqD_rfl,hn1,hUh0,hUn0,go_sem]
              repeat(with_reducible first|refine oA ?_|refine And.intro (by first|assumption|exact⟨by omega,by omega⟩|(refine⟨by omega,?_⟩;simp only[ctP] at *;omega)|omega|assumption) ?_)
              refine hK25 _ ?_
              refine AWP_cond rfl ?_ ?_
              ·
               intro c6
               try simp only[zA,zB,zC,zD,zE,zF,zG,zH,zI] at c6
               all_goals
                all_goals first|(cases c6;done)|(simp at c6;done)|omega
              ·
               intro c6
               try simp only[zA,zB,zC,zD,zE,zF,zG,zH,zI] at c6
               all_goals
                refine AWP_skip ?_
                simp only[go_sem]
                refine hK24 _ ?_
                refine oS fun _ hK26=>?_
                refine oW T_mHx271_ok ?_
                simp only[hU,eqD_rfl,hn1,hUh0,hUn0,go_sem]
                repeat(with_reducible first|refine oA ?_|refine And.intro (by first|assumption|exact⟨by omega,by omega⟩|(refine⟨by omega,?_⟩;simp only[ctP] at *;omega)|omega|assumption) ?_)
                refine hK26 _ ?_
                refine AWP_ret ?_
                simp only[hres,go_sem]
                first|exact oF|exact oFr
def T_lawRdE:Tab:=fun f=>if f=4 then some (.p K_lawRdE) else T_mHx271 f
attribute [go_sem] T_lawRdE K_lawRdE
end Go.Proofs.YthhogcknkimijaaDoor
