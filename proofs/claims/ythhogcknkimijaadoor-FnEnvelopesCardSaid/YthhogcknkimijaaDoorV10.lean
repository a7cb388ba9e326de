/-
  Texts of this claim, joined (part 10). No condition beyond those of the theorems.
-/
import Derived.Test.YthhogcknkimijaaDoorV07
import Derived.Test.YthhogcknkimijaaDoorV09
import Derived.Test.YthhogcknkimijaaDoorV02
namespace Go.Proofs.YthhogcknkimijaaDoor
open Go.RowKit
set_option linter.unusedSimpArgs false
set_option linter.unusedVariables false
set_option maxRecDepth 100000
set_option maxHeartbeats 4000000
def K_within:Con:=⟨[.val (.int .i64),.val (.int .i64),.val (.int .i64)],[⟨.bool,true⟩],fun _=>True,fun x=>inR x.1 x.2.1 x.2.2.1⟩
theorem within_ok:PureT Tryd.prog 61 K_within:=by
  refine pure_of_body Tryd.func61 rfl ?_
  have hres:Tryd.f61.results.toList=[.tmp 6]:=rfl
  rintro⟨(x:Int),(lo:Int),(hi:Int),_⟩ hc hL
  simp only[K_within,go_sem] at hL
  simp only[K_within,St.init,St.initG,Tryd.ntmps61,go_sem] 
  refine oS fun _ hK1=>?_
  refine oW T0_ok ?_
  simp only[go_sem]
  refine hK1 _ ?_
  refine oS fun _ hK2=>?_
  refine oW T0_ok ?_
  simp (maxSteps:=2000000)only[go_sem]
  repeat' (with_reducible first|refine oA ?_|refine oT (fun g1=>?_) (fun g1=>?_)|refine oE (fun g1=>?_) (fun g1=>?_))
  all_goals
   refine hK2 _ ?_
   refine AWP_ret ?_
   simp only[hres,go_sem]
   first|exact oF|(refine⟨?_,oF⟩;first|rw[inR,decide_eq_true (show lo≤x from g1),Bool.true_and]|rw[inR,decide_eq_false (show ¬lo≤x from g1),Bool.false_and])
def T_within:Tab:=fun f=>if f=61 then some (.p K_within) else T0 f
theorem T_within_ok:TabOk Tryd.prog T_within:=tabP within_ok (fnOk_of Tryd.func61 rfl (by decide)) T0_ok
attribute [go_sem] T_within K_within
def K_isLevel:Con:=⟨[.val (.int .i64)],[⟨.bool,true⟩],fun _=>True,fun x=>inR x.1 0 65536⟩
theorem isLevel_ok:PureT Tryd.prog 51 K_isLevel:=by
  refine pure_of_body Tryd.func51 rfl ?_
  have hres:Tryd.f51.results.toList=[.tmp 2]:=rfl
  rintro⟨(x:Int),_⟩ hc hL
  simp only[K_isLevel,go_sem] at hL
  simp only[K_isLevel,St.init,St.initG,Tryd.ntmps51,go_sem] 
  refine oS fun _ hK1=>?_
  refine oW T_within_ok ?_
  simp only[go_sem]
  refine hK1 _ ?_
  refine oS fun _ hK2=>?_
  refine oW T_within_ok ?_
  simp only[go_sem]
  repeat(with_reducible refine oA ?_)
  refine hK2 _ ?_
  refine AWP_ret ?_
  simp only[hres,go_sem]
  first|exact oF|exact oFr
def T_isLevel:Tab:=fun f=>if f=51 then some (.p K_isLevel) else T_within f
theorem T_isLevel_ok:TabOk Tryd.prog T_isLevel:=tabP isLevel_ok (fnOk_of Tryd.func51 rfl (by decide)) T_within_ok
attribute [go_sem] T_isLevel K_isLevel
def K_isCount:Con:=⟨[.val (.int .i64)],[⟨.bool,true⟩],fun _=>True,fun x=>inR x.1 0 4000⟩
theorem isCount_ok:PureT Tryd.prog 42 K_isCount:=by
  refine pure_of_body Tryd.func42 rfl ?_
  have hres:Tryd.f42.results.toList=[.tmp 2]:=rfl
  rintro⟨(x:Int),_⟩ hc hL
  simp only[K_isCount,go_sem] at hL
  simp only[K_isCount,St.init,St.initG,Tryd.ntmps42,go_sem] 
  refine oS fun _ hK1=>?_
  refine oW T_isLevel_ok ?_
  simp only[go_sem]
  refine hK1 _ ?_
  refine oS fun _ hK2=>?_
  refine oW T_isLevel_ok ?_
  simp only[go_sem]
  repeat(with_reducible refine oA ?_)
  refine hK2 _ ?_
  refine AWP_ret ?_
  simp only[hres,go_sem]
  first|exact oF|exact oFr
def T_isCount:Tab:=fun f=>if f=42 then some (.p K_isCount) else T_isLevel f
theorem T_isCount_ok:TabOk Tryd.prog T_isCount:=tabP isCount_ok (fnOk_of Tryd.func42 rfl (by decide)) T_isLevel_ok
attribute [go_sem] T_isCount K_isCount
def K_isEnvelope:Con:=⟨[.val ((.prod (.int .i64) (.prod (.row 48 (.prod (.int .i64) (.int .i64))) (.int .i64))))],[⟨.bool,true⟩],fun _=>True,fun x=>envB x.1⟩
theorem isEnvelope_ok:PureT Tryd.prog 27 K_isEnvelope:=by
  refine pure_of_body Tryd.func27 rfl ?_
  have hres:Tryd.f27.results.toList=[.tmp 2]:=rfl
  rintro⟨⟨(st:Int),(sg:List (Int × Int)),(rl:Int)⟩,_⟩ hc hL
  simp only[K_isEnvelope,go_sem] at hL
  simp only[K_isEnvelope,St.init,St.initG,Tryd.ntmps27,go_sem] 
  refine oS fun _ hK1=>?_
  refine oW T_isCount_ok ?_
  simp only[go_sem]
  refine hK1 _ ?_
  refine oS fun _ hK2=>?_
  refine oS fun _ hK3=>?_
  refine oW T_isCount_ok ?_
  simp only[go_sem]
  repeat(with_reducible refine oA ?_)
  refine hK3 _ ?_
  refine AWP_block ?_
  refine AWP_loop_k (ι:={ k:Nat // k≤sg.length∧(sg.take k).all segB=true }) (fun k=>⟨[zz,.c (.po 116 0),zz,zz,zz,zz,.c (.rd [] 48 ((.prod (.int .i64) (.int .i64))) (sg)),.c (.sc (.int .i64 (sg.length))),.c (.sc (.int .i64 (k.1))),zz,zz,zz,zz,zz,zz,zz,zz,zz,zz,zz,zz,zz,zz,zz,zz,zz,zz,zz,zz,zz,zz,zz,zz,zz,zz,zz,zz],[(116,.box [.sc (.int .i64 (st)),.rd [] 48 ((.prod (.int .i64) (.int .i64))) (sg),.sc (.int .i64 (rl))])]⟩) (fun k=>sg.length - k.1) ⟨0,by simp⟩ ?_ ?_
  ·
   refine oK ?_
   simp (maxSteps:=2000000)only[go_sem]
   all_goals(first|rfl|((repeat' refine And.intro ?_ ?_)<;>first|rfl|simp))
  rintro⟨k,hk,hp⟩ K4 hL4
  refine oS fun _ hK5=>?_
  refine oW T_isCount_ok ?_
  simp only[go_sem]
  refine hK5 _ ?_
  refine oS fun _ hK6=>?_
  refine oC rfl ?_ ?_
  ·
   intro c0
   refine AWP_skip ?_
   simp only[go_sem]
   refine hK6 _ ?_
   refine oS fun _ hK7=>?_
   refine AWP_block ?_
   refine oS fun _ hK8=>?_
   refine oW T_isCount_ok ?_
   simp only[go_sem]
   repeat(with_reducible refine oA ?_)
   refine hK8 _ ?_
   refine oS fun _ hK9=>?_
   refine oW T_isCount_ok ?_
   simp (maxSteps:=2000000)only[go_sem]
   repeat' (with_reducible first|refine oA ?_|refine oT (fun g4=>?_) (fun g4=>?_)|refine oE (fun g4=>?_) (fun g4=>?_))
   all_goals
    refine hK9 _ ?_
    refine AWP_cond rfl ?_ ?_
    ·
     intro c1
     try simp only[zA,zB,zC,zD,zE,zF,zG,zH,zI] at c1
     all_goals
      refine oS fun _ hK10=>?_
      refine oW T_isCount_ok ?_
      simp only[go_sem]
      refine hK10 _ ?_
      refine AWP_ret ?_
      simp only[hres,go_sem]
      first
       | exact oF
       | refine ⟨?_, oF⟩
         have hq:segB (sg.getD k ((0,0):Int × Int))=false:=by clear hK1 hK2 hK3 hL4 hK5 hK6 hK7 hK8 hK9 hK10;simp_all [segB]
         exact(show envB (st,sg,rl)=false by unfold envB;rw[all_stop (k:=k) (d:=((0,0):Int × Int)) (by omega) hq];rfl).symm
    ·
     intro c1
     try simp only[zA,zB,zC,zD,zE,zF,zG,zH,zI] at c1
     all_goals
      have hq:segB (sg.getD k ((0,0):Int × Int))=true:=by clear hK1 hK2 hK3 hL4 hK5 hK6 hK7 hK8 hK9;simp_all [segB]
      refine AWP_skip ?_
      simp only[go_sem]
      refine hK7 _ ?_
      refine oW T_isCount_ok ?_
      simp only[go_sem]
      refine hL4 ⟨k+1,by omega,all_next (d:=((0,0):Int × Int)) (by omega) hp (by first|assumption|(clear hK1 hK2 hK3 hL4 hK5 hK6 hK7 hK8 hK9;simp_all))⟩ _ (oK ?_) ?_
      ·
       simp (maxSteps:=2000000)only[go_sem]
       first|rfl|exact wk (by omega)
      ·
       first|(simp only[];omega)|omega|(simp;omega)
  intro c0
  refine AWP_exit ?_
  simp only[go_sem]
  refine hK2 _ ?_
  refine oS fun _ hK11=>?_
  refine oW T_isCount_ok ?_
  simp (maxSteps:=2000000)only[go_sem]
  repeat' (with_reducible first|refine oA ?_|refine oT (fun g7=>?_) (fun g7=>?_)|refine oE (fun g7=>?_) (fun g7=>?_))
  all_goals
   refine hK11 _ ?_
   refine AWP_ret ?_
   simp only[hres,go_sem]
   first
    | exact oF
    | refine ⟨?_, oF⟩
      have ha:=all_done hp (by omega)
      unfold envB
      simp only[ha,Bool.true_and]
      first|(rw[show inR st 0 65536=false by assumption];rfl)|(rw[show inR st 0 65536=true by assumption,show inR rl 0 4000=false by assumption];rfl)|(rw[show inR st 0 65536=true by assumption,show inR rl 0 4000=true by assumption,Bool.true_and,Bool.true_and];exact decide_eq_decide.2 (by omega))
def T_isEnvelope:Tab:=fun f=>if f=27 then some (.p K_isEnvelope) else T_isCount f
theorem T_isEnvelope_ok:TabOk Tryd.prog T_isEnvelope:=tabP isEnvelope_ok (fnOk_of Tryd.func27 rfl (by decide)) T_isCount_ok
attribute [go_sem] T_isEnvelope K_isEnvelope
def T_l14Ok:Tab:=T_isEnvelope
theorem T_l14Ok_ok:TabOk Tryd.prog T_l14Ok:=T_isEnvelope_ok
attribute [go_sem] T_l14Ok
end Go.Proofs.YthhogcknkimijaaDoor
