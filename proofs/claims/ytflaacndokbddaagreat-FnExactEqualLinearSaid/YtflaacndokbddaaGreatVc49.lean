/-
  Texts of this claim, joined (part 49). No condition beyond those of the theorems.
-/
import Derived.Test.YtflaacndokbddaaGreatVc07
import Derived.Test.YtflaacndokbddaaGreatVc08
import Derived.Test.YtflaacndokbddaaGreatVc09
import Derived.Test.YtflaacndokbddaaGreatVc31
import Derived.Test.YtflaacndokbddaaGreatVc48
import Derived.Test.YtflaacndokbddaaGreatVc02
namespace Go.Proofs.YtflaacndokbddaaGreat
open Go.RowKit
set_option linter.unusedSimpArgs false
set_option linter.unusedVariables false
set_option maxRecDepth 100000
set_option maxHeartbeats 1000000
def T_mHx210:Tab:=fun f=>match T_toP f with
 | some k=>some k
 | none=>T_eqP f
theorem T_mHx210_ok:TabOk Tryz.prog T_mHx210:=tabM T_toP_ok T_eqP_ok
attribute [go_sem] T_mHx210 T0
def T_mHx211:Tab:=fun f=>match T_mHx210 f with
 | some k=>some k
 | none=>T_implEqLin f
theorem T_mHx211_ok:TabOk Tryz.prog T_mHx211:=tabM T_mHx210_ok T_implEqLin_ok
attribute [go_sem] T_mHx211 T0
def T_mHx212:Tab:=fun f=>match T_mHx211 f with
 | some k=>some k
 | none=>T_specEqLin f
theorem T_mHx212_ok:TabOk Tryz.prog T_mHx212:=tabM T_mHx211_ok T_specEqLin_ok
attribute [go_sem] T_mHx212 T0
def K_lawEqLin:Con:=⟨[.val ((.prod (.int .i64) (.prod (.row 26 (.row 2 (.int .i64))) (.prod (.row 147 (.prod (.int .i64) (.prod (.int .i64) (.prod (.int .i64) (.row 2 (.int .i64)))))) (.row 2 (.int .i64)))))),.val ((.prod (.int .i64) (.prod (.row 26 (.row 2 (.int .i64))) (.prod (.row 147 (.prod (.int .i64) (.prod (.int .i64) (.prod (.int .i64) (.row 2 (.int .i64)))))) (.row 2 (.int .i64))))))],[⟨.bool,true⟩],fun _=>True,fun _=>true⟩
theorem lawEqLin_ok:PureT Tryz.prog 7 K_lawEqLin:=by
  refine pure_of_body Tryz.func7 rfl ?_
  have hres:Tryz.f7.results.toList=[.tmp 4]:=rfl
  rintro ⟨⟨(pi:Int),(ts:List (List Int)),(ns:List NodeD),(os:List Int)⟩,⟨(pi2:Int),(ts2:List (List Int)),(ns2:List NodeD),(os2:List Int)⟩,_⟩ hc hL
  simp only[K_lawEqLin,go_sem] at hL
  simp only[K_lawEqLin,St.init,St.initG,Tryz.ntmps7,go_sem] 
  obtain ⟨U,hU⟩ :∃U,eqlR (pi,ts,ns,os) (pi2,ts2,ns2,os2)=U:=⟨_,rfl⟩
  refine oS fun _ hK1=>?_
  refine AWP_wk (Wk_keep _ [0,1] []) ?_
  simp (maxSteps:=2000000)only[go_sem]
  refine oW T_mHx212_ok ?_
  simp only[go_sem]
  repeat (with_reducible first | refine oA ?_ | refine And.intro (by first | assumption | exact ⟨by omega,by omega⟩ | (refine ⟨by omega,?_⟩; simp only[ctP] at *; omega)) ?_)
  refine hK1 _ ?_
  refine oS fun _ hK2=>?_
  refine oW T_mHx212_ok ?_
  simp only[go_sem]
  repeat (with_reducible first | refine oA ?_ | refine And.intro (by first | assumption | exact ⟨by omega,by omega⟩ | (refine ⟨by omega,?_⟩; simp only[ctP] at *; omega)) ?_)
  refine hK2 _ ?_
  refine oS fun _ hK3=>?_
  refine AWP_wk (Wk_keep _ [2,3,5] [132,148]) ?_
  simp (maxSteps:=2000000)only[go_sem]
  refine oW T_mHx212_ok ?_
  simp only[go_sem]
  repeat (with_reducible first | refine oA ?_ | refine And.intro (by first | assumption | exact ⟨by omega,by omega⟩ | (refine ⟨by omega,?_⟩; simp only[ctP] at *; omega)) ?_)
  refine hK3 _ ?_
  refine oS fun _ hK4=>?_
  refine oS fun _ hK5=>?_
  refine oW T_mHx212_ok ?_
  simp only[go_sem]
  repeat (with_reducible first | refine oA ?_ | refine And.intro (by first | assumption | exact ⟨by omega,by omega⟩ | (refine ⟨by omega,?_⟩; simp only[ctP] at *; omega)) ?_)
  refine hK5 _ ?_
  refine oC rfl ?_ ?_
  ·
   intro c0
   refine oS fun _ hK6=>?_
   refine oW T_mHx212_ok ?_
   simp only[go_sem]
   repeat (with_reducible first | refine oA ?_ | refine And.intro (by first | assumption | exact ⟨by omega,by omega⟩ | (refine ⟨by omega,?_⟩; simp only[ctP] at *; omega)) ?_)
   refine hK6 _ ?_
   refine AWP_ret ?_
   simp only[hres,go_sem]
   first | exact oF | exact oFr
  intro c0
  obtain ⟨e0,e0'⟩:=szR_ge' c0
  have f0:fitsP (pi,ts,ns,os):=fitsP_sz (by omega)
  have g0:=ctP_le (pi,ts,ns,os)
  have hz0:ctP (0,ts,ns,os)=ctP (pi,ts,ns,os):=rfl
  refine AWP_skip ?_
  simp only[go_sem]
  refine hK4 _ ?_
  refine oS fun _ hK7=>?_
  refine AWP_wk (Wk_keep _ [2,3,5] [132,148,324,325,326,327,328,329,330,331]) ?_
  simp (maxSteps:=2000000)only[go_sem]
  refine oW T_mHx212_ok ?_
  simp only[go_sem]
  repeat (with_reducible first | refine oA ?_ | refine And.intro (by first | assumption | exact ⟨by omega,by omega⟩ | (refine ⟨by omega,?_⟩; simp only[ctP] at *; omega)) ?_)
  refine hK7 _ ?_
  refine oS fun _ hK8=>?_
  refine oS fun _ hK9=>?_
  refine oW T_mHx212_ok ?_
  simp only[go_sem]
  repeat (with_reducible first | refine oA ?_ | refine And.intro (by first | assumption | exact ⟨by omega,by omega⟩ | (refine ⟨by omega,?_⟩; simp only[ctP] at *; omega)) ?_)
  refine hK9 _ ?_
  refine oC rfl ?_ ?_
  ·
   intro c1
   refine oS fun _ hK10=>?_
   refine oW T_mHx212_ok ?_
   simp only[go_sem]
   repeat (with_reducible first | refine oA ?_ | refine And.intro (by first | assumption | exact ⟨by omega,by omega⟩ | (refine ⟨by omega,?_⟩; simp only[ctP] at *; omega)) ?_)
   refine hK10 _ ?_
   refine AWP_ret ?_
   simp only[hres,go_sem]
   first | exact oF | exact oFr
  intro c1
  obtain ⟨e1,e1'⟩:=szR_ge' c1
  have f1:fitsP (pi2,ts2,ns2,os2):=fitsP_sz (by omega)
  have g1:=ctP_le (pi2,ts2,ns2,os2)
  have hz1:ctP (0,ts2,ns2,os2)=ctP (pi2,ts2,ns2,os2):=rfl
  have hn1:decide (1+(ctP (0,ts,ns,os):Int)+(ctP (0,ts2,ns2,os2):Int) < 0)=false:=decide_eq_false (by omega)
  refine AWP_skip ?_
  simp only[go_sem]
  refine hK8 _ ?_
  refine oS fun _ hK11=>?_
  refine AWP_wk (Wk_keep _ [2,3] [132,148]) ?_
  simp (maxSteps:=2000000)only[go_sem]
  refine oR T_mHx212_ok
    [[],[0],[],[0,1,2],[0,1,2,3],[0,1,2,3,4],[0,1,2,3,4,5],[0,1,2,3,4,5],[0,1,2,3,4,5,6],[0,1,2,3,4,5,6,7,8]]
    [[],[],[484,485,486,487,488,489,490,491,492,493,494,495,496,497,498,499],[],[],[],[],[],[],[]]
    [[],[484,485,486,487,488,489,490,491,492,493,494,495,496,497,498,499],[],[],[],[],[],[],[],[]] (by kernel_rfl) (by kernel_rfl) (adrawR_ok (acc:=[]) ?_)
  simp (maxSteps:=2000000)only[hU,eqD_rfl,hn1,hU,go_sem]
  repeat (with_reducible first | refine oD ?_ | refine And.intro (by first | assumption | exact ⟨by omega,by omega⟩ | (refine ⟨by omega,?_⟩; simp only[ctP] at *; omega)) ?_)
  refine hK11 _ ?_
  refine oS fun _ hK12=>?_
  refine AWP_wk (Wk_keep _ [2,3,6,7] [132,148,532,533,534,535,536,537,538,539]) ?_
  simp (maxSteps:=2000000)only[go_sem]
  refine oW T_mHx212_ok ?_
  simp only[hU,eqD_rfl,hn1,hU,go_sem]
  repeat (with_reducible first | refine oA ?_ | refine And.intro (by first | assumption | exact ⟨by omega,by omega⟩ | (refine ⟨by omega,?_⟩; simp only[ctP] at *; omega)) ?_)
  refine hK12 _ ?_
  refine oS fun _ hK13=>?_
  refine AWP_wk (Wk_keep _ [2,3,6,7,8] [132,148,228,532,533,534,535,536,537,538,539,596,597,598,599,600,601,602,603]) ?_
  simp (maxSteps:=2000000)only[go_sem]
  refine oW T_mHx212_ok ?_
  simp only[hU,eqD_rfl,hn1,hU,go_sem]
  repeat (with_reducible first | refine oA ?_ | refine And.intro (by first | assumption | exact ⟨by omega,by omega⟩ | (refine ⟨by omega,?_⟩; simp only[ctP] at *; omega)) ?_)
  refine hK13 _ ?_
  refine oS fun _ hK14=>?_
  refine AWP_wk (Wk_keep _ [2,3,6,7,8,9] [132,148,228,244,532,533,534,535,536,537,538,539,596,597,598,599,600,601,602,603,628,629,630,631,632,633,634,635]) ?_
  simp (maxSteps:=2000000)only[go_sem]
  refine oW T_mHx212_ok ?_
  simp (maxSteps:=2000000)only[hU,eqD_rfl,hn1,hU,go_sem]
  repeat (with_reducible first | refine oA ?_ | refine And.intro (by first | assumption | exact ⟨by omega,by omega⟩ | (refine ⟨by omega,?_⟩; simp only[ctP] at *; omega)) ?_)
  refine hK14 _ ?_
  refine oS fun _ hK15=>?_
  refine oS fun _ hK16=>?_
  refine oW T_mHx212_ok ?_
  simp (maxSteps:=2000000)only[hU,eqD_rfl,hn1,hU,go_sem]
  repeat' (with_reducible first | refine oA ?_ | refine And.intro (by first | assumption | exact ⟨by omega,by omega⟩ | (refine ⟨by omega,?_⟩; simp only[ctP] at *; omega)) ?_ | refine oT (fun g12=>?_) (fun g12=>?_) | refine oE (fun g12=>?_) (fun g12=>?_))
  all_goals
   refine hK16 _ ?_
   refine AWP_cond rfl ?_ ?_
   ·
    intro c2
    try simp only[zA,zB,zC,zD,zE,zF,zG,zH,zI] at c2
    all_goals
     all_goals first | (cases c2; done) | (simp at c2; done) | omega
   ·
    intro c2
    try simp only[zA,zB,zC,zD,zE,zF,zG,zH,zI] at c2
    all_goals
     refine AWP_skip ?_
     simp only[go_sem]
     refine hK15 _ ?_
     refine oS fun _ hK17=>?_
     refine oS fun _ hK18=>?_
     refine AWP_wk (Wk_keep _ [2,3,8,9] [132,148,228,244,596,597,598,599,600,601,602,603,628,629,630,631,632,633,634,635]) ?_
     simp (maxSteps:=2000000)only[go_sem]
     refine oR T_mHx212_ok
       [[],[],[1],[0,1,2],[0,1,2,3]]
       [[900,901,902,903,904,905,906,907,908,909,910,911,912,913,914,915],[],[],[],[]]
       [[],[],[900,901,902,903,904,905,906,907,908,909,910,911,912,913,914,915],[],[]] (by kernel_rfl) (by kernel_rfl) (adrawR_ok (acc:=[]) ?_)
     simp (maxSteps:=2000000)only[hU,eqD_rfl,hn1,hU,go_sem]
     repeat (with_reducible first | refine oD ?_ | refine And.intro (by first | assumption | exact ⟨by omega,by omega⟩ | (refine ⟨by omega,?_⟩; simp only[ctP] at *; omega)) ?_)
     refine hK18 _ ?_
     refine AWP_cond rfl ?_ ?_
     ·
      intro c3
      try simp only[zA,zB,zC,zD,zE,zF,zG,zH,zI] at c3
      all_goals
       all_goals first | (cases c3; done) | (simp at c3; done) | omega
     ·
      intro c3
      try simp only[zA,zB,zC,zD,zE,zF,zG,zH,zI] at c3
      all_goals
       refine AWP_skip ?_
       simp only[go_sem]
       refine hK17 _ ?_
       refine oS fun _ hK19=>?_
       refine oS fun _ hK20=>?_
       refine AWP_wk (Wk_keep _ [3,9] [148,244,628,629,630,631,632,633,634,635]) ?_
       simp (maxSteps:=2000000)only[go_sem]
       refine oR T_mHx212_ok
         [[],[],[1],[0,1,2],[0,1,2,3]]
         [[980,981,982,983,984,985,986,987,988,989,990,991,992,993,994,995],[],[],[],[]]
         [[],[],[980,981,982,983,984,985,986,987,988,989,990,991,992,993,994,995],[],[]] (by kernel_rfl) (by kernel_rfl) (adrawR_ok (acc:=[]) ?_)
       simp (maxSteps:=2000000)only[hU,eqD_rfl,hn1,hU,go_sem]
       repeat (with_reducible first | refine oD ?_ | refine And.intro (by first | assumption | exact ⟨by omega,by omega⟩ | (refine ⟨by omega,?_⟩; simp only[ctP] at *; omega)) ?_)
       refine hK20 _ ?_
       refine AWP_cond rfl ?_ ?_
       ·
        intro c4
        try simp only[zA,zB,zC,zD,zE,zF,zG,zH,zI] at c4
        all_goals
         all_goals first | (cases c4; done) | (simp at c4; done) | omega
       ·
        intro c4
        try simp only[zA,zB,zC,zD,zE,zF,zG,zH,zI] at c4
        all_goals
         refine AWP_skip ?_
         simp only[go_sem]
         refine hK19 _ ?_
         refine oS fun _ hK21=>?_
         refine oW T_mHx212_ok ?_
         simp only[hU,eqD_rfl,hn1,hU,go_sem]
         repeat (with_reducible first | refine oA ?_ | refine And.intro (by first | assumption | exact ⟨by omega,by omega⟩ | (refine ⟨by omega,?_⟩; simp only[ctP] at *; omega)) ?_)
         refine hK21 _ ?_
         refine AWP_ret ?_
         simp only[hres,go_sem]
         first | exact oF | exact oFr
def T_lawEqLin:Tab:=fun f=>if f=7 then some (.p K_lawEqLin) else T_mHx212 f
attribute [go_sem] T_lawEqLin K_lawEqLin
end Go.Proofs.YtflaacndokbddaaGreat
