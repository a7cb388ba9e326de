/-
  Texts of this claim, joined (part 37). No condition beyond those of the theorems.
-/
import Derived.Test.YtgmabhkmiokiaaaGreatVa23
import Derived.Test.YtgmabhkmiokiaaaGreatVa32
import Derived.Test.YtgmabhkmiokiaaaGreatVa05
import Derived.Test.YtgmabhkmiokiaaaGreatVa36
namespace Go.Proofs.YtgmabhkmiokiaaaGreat
open Go.RowKit
set_option linter.unusedSimpArgs false
set_option linter.unusedVariables false
set_option maxRecDepth 100000
set_option maxHeartbeats 4000000
def T_mHb110:Tab:=fun f=>match T_start f with
 | some k=>some k
 | none=>T_isPatch f
theorem T_mHb110_ok:TabOk Tryz.prog T_mHb110:=tabM T_start_ok T_isPatch_ok
attribute [go_sem] T_mHb110 T0
def K_startState:GCon where
  ps:=[.val ((.prod (.int .i64) (.prod (.row 26 (.row 2 (.int .i64))) (.prod (.row 93 (.prod (.int .i64) (.prod (.int .i64) (.prod (.int .i64) (.row 2 (.int .i64)))))) (.row 2 (.int .i64))))))]
  os:=[]
  c:=fun x=>patchB x.1.1=true
  r:=fun _=>.agg [.ow 10]
  o:=fun x=>[(10,.tree 26 (.row 2 (.int .i64)) (startL x.1.1) none)]
  ok:=by
    rintro ⟨⟨⟨(pi:Int),(ts:List (List Int)),(ns:List NodeD),(os:List Int)⟩,_⟩,_⟩
    exact ⟨rfl,rfl,by decide⟩
theorem startState_ok:GenT Tryz.prog 80 K_startState:=by
  refine gen_of_body Tryz.func80 rfl ?_
  have hres:Tryz.f80.results.toList=[.cell 2 84]:=rfl
  rintro ⟨⟨⟨(pi:Int),(ts:List (List Int)),(ns:List NodeD),(os:List Int)⟩,_⟩,_⟩ hc hL hO
  simp only[K_startState,go_sem] at hL
  simp only[K_startState,go_sem] at hO
  simp only[K_startState,St.init,St.initG,Tryz.ntmps80,go_sem] 
  have hP:patchB (pi,ts,ns,os)=true:=hc
  have hF:=(patchB_parts hP).1
  have hn24:ns.length≤24:=(formedB_parts hF).1
  refine oS fun _ hK1=>?_;refine oW T_mHb110_ok ?_;simp only[go_sem];repeat (with_reducible first | refine oA ?_ | refine And.intro (by first | exact hnc2 (by omega)) ?_)
  refine hK1 _ ?_;refine oS fun _ hK2=>?_;refine oW T_mHb110_ok ?_;simp only[go_sem];repeat (with_reducible first | refine oA ?_ | refine And.intro (by first | exact hnc2 (by omega)) ?_)
  refine hK2 _ ?_;refine oS fun _ hK3=>?_;refine oS fun _ hK4=>?_;refine oW T_mHb110_ok ?_;simp only[go_sem];repeat (with_reducible first | refine oA ?_ | refine And.intro (by first | exact hnc2 (by omega)) ?_)
  refine hK4 _ ?_;refine AWP_block ?_;refine AWP_wk (Wk_nilBox _ 148 0 9001 26 ((.row 2 (.int .i64))) (by decide)) ?_;simp (maxSteps:=2000000)only[go_sem];refine AWP_loop_k (ι:={ k:Nat // k≤ns.length }) (fun k=>⟨[zz,zz,.c (.po 132 0),.c (.po 148 0),zz,zz,zz,zz,.c (.rd [] 93 ((.prod (.int .i64) (.prod (.int .i64) (.prod (.int .i64) (.row 2 (.int .i64)))))) (ns)),.c (.sc (.int .i64 (ns.length))),.c (.sc (.int .i64 (k.1))),zz,zz,zz,zz,zz,zz,zz,zz,zz,zz,zz,zz],[(132,.box [.sc (.slice none 0 0)]),(148,.box [.ow 9001]),(9001,.tree 26 (.row 2 (.int .i64)) (((ns.take k.1).map startV)) none)]⟩) (fun k=>ns.length - k.1) ⟨0,by simp⟩ ?_ ?_
  ·
   refine oK ?_;simp (maxSteps:=2000000)only[go_sem];all_goals ((repeat' refine And.intro ?_ ?_)<;>first | rfl | (congr 1; done) | (simp; done))
  rintro ⟨k,hk⟩ K5 hL5
  have hml:((ns.take k).map startV).length≤24:=by rw [List.length_map,List.length_take]; omega
  have hnc:k < ns.length→nodeC (ns.getD k (0,0,0,[])):=fun h=>⟨_,(nodeIn_parts (node_at (p:=(pi,ts,ns,os)) (patchB_parts hP).1 h)).1⟩
  have hnx:k < ns.length→(ns.take k).map startV++[startV (ns.getD k (0,0,0,[]))]=(ns.take (k+1)).map startV:=fun h=>map_next3 _ h
  have hnc2:k < ns.length→nodeC ((ns.getD k (0,0,0,[])).1,(ns.getD k (0,0,0,[])).2.1,(ns.getD k (0,0,0,[])).2.2.1,(ns.getD k (0,0,0,[])).2.2.2):=hnc
  refine oS fun _ hK6=>?_;refine oW T_mHb110_ok ?_;simp only[go_sem];repeat (with_reducible first | refine oA ?_ | refine And.intro (by first | exact hnc2 (by omega)) ?_)
  refine hK6 _ ?_;refine oS fun _ hK7=>?_;refine oC rfl ?_ ?_
  ·
   intro c0;refine AWP_skip ?_;simp only[go_sem];refine hK7 _ ?_;refine oS fun _ hK8=>?_;refine AWP_block ?_;refine oS fun _ hK9=>?_;refine oW T_mHb110_ok ?_;simp only[go_sem];repeat (with_reducible first | refine oA ?_ | refine And.intro (by first | exact hnc2 (by omega)) ?_)
   refine hK9 _ ?_
   refine oR T_mHb110_ok
     [[],[0],[],[2],[2,3],[0,1,2,3,4],[0,1,2,3,4,5],[0,1,2,3,4,5,6]]
     [[372,373,374,375,376,377,378,379,380,381,382,383,384,385,386,387,388],[372,373,374,375,376,377,378,379,380,381,382,383,384,385,386,387,388],[],[],[],[],[],[]]
     [[],[],[],[372,373,374,375,376,377,378,379,380,381,382,383,384,385,386,387],[372,373,374,375,376,377,378,379,380,381,382,383,384,385,386,387,388],[],[],[]] (by kernel_rfl) (by kernel_rfl) (adrawR_ok (acc:=[]) ?_)
   simp (maxSteps:=2000000)only[List.nodup_cons,List.nodup_nil,List.not_mem_nil,not_false_eq_true,go_sem];repeat (with_reducible first | refine oD ?_ | refine And.intro (by first | exact hnc2 (by omega)) ?_)
   refine hK8 _ ?_;refine oW T_mHb110_ok ?_;simp only[go_sem];repeat (with_reducible first | refine oA ?_ | refine And.intro (by first | exact hnc2 (by omega)) ?_)
   refine hL5 ⟨k+1,by omega⟩ _ (oK ?_) ?_
   ·
    simp (maxSteps:=2000000)only[go_sem];all_goals ((repeat' refine And.intro ?_ ?_)<;>first | rfl | exact wk (by omega) | (congr 1; exact hnx (by omega)) | exact hnx (by omega))
   ·
    first | (simp only[]; omega) | omega | (simp; omega)
  intro c0;refine AWP_exit ?_;simp only[go_sem];refine hK3 _ ?_;refine oS fun _ hK10=>?_;refine oW T_mHb110_ok ?_;simp only[go_sem];repeat (with_reducible first | refine oA ?_ | refine And.intro (by first | exact hnc2 (by omega)) ?_)
  refine hK10 _ ?_;refine AWP_ret ?_;simp only[hres,go_sem];first | exact oG | (refine ⟨oG,?_⟩; (repeat' refine And.intro ?_ ?_)<;>first | rfl | (congr 1; exact congrArg (List.map startV) (List.take_of_length_le (by omega))) | (congr 1; done))
def T_startState:Tab:=fun f=>if f=80 then some (.g K_startState) else T_mHb110 f
theorem T_startState_ok:TabOk Tryz.prog T_startState:=tabG startState_ok (fnOk_of Tryz.func80 rfl (by decide)) T_mHb110_ok
attribute [go_sem] T_startState K_startState
set_option maxRecDepth 100000
set_option maxHeartbeats 4000000
def T_mHb150:Tab:=fun f=>match T_plBlock f with
 | some k=>some k
 | none=>T_startState f
theorem T_mHb150_ok:TabOk Tryz.prog T_mHb150:=tabM T_plBlock_ok T_startState_ok
attribute [go_sem] T_mHb150 T0
def T_mHb151:Tab:=fun f=>match T_mHb150 f with
 | some k=>some k
 | none=>T_playerOf f
theorem T_mHb151_ok:TabOk Tryz.prog T_mHb151:=tabM T_mHb150_ok T_playerOf_ok
attribute [go_sem] T_mHb151 T0
def K_implRender0:Con:=⟨[.val ((.prod (.int .i64) (.prod (.row 26 (.row 2 (.int .i64))) (.prod (.row 93 (.prod (.int .i64) (.prod (.int .i64) (.prod (.int .i64) (.row 2 (.int .i64)))))) (.row 2 (.int .i64)))))),.val ((.row 26 (.row 2 (.int .i64)))),.val (.int .i64)],[⟨(.row 26 (.row 2 (.int .i64))),true⟩],fun x=>patchB x.1=true∧insOk x.1 x.2.1∧inR x.2.2.1 0 1000000=true,fun x=>renderL x.1 x.2.1 (Int.toNat x.2.2.1)⟩
theorem implRender0_ok:PureT Tryz.prog 36 K_implRender0:=by
  refine pure_of_body Tryz.func36 rfl ?_
  have hres:Tryz.f36.results.toList=[.tmp 6]:=rfl
  rintro ⟨⟨(pi:Int),(ts:List (List Int)),(ns:List NodeD),(os:List Int)⟩,(ins:List (List Int)),(nn:Int),_⟩ hc hL
  simp only[K_implRender0,go_sem] at hL
  simp only[K_implRender0,St.init,St.initG,Tryz.ntmps36,go_sem] 
  obtain ⟨hP,hin,hnr⟩:=(show patchB (pi,ts,ns,os)=true∧insOk (pi,ts,ns,os) ins∧inR nn 0 1000000=true from hc)
  obtain ⟨hn1,hn2⟩:=inR_iff.1 hnr
  have hF:=(patchB_parts hP).1
  have hs0:=startL_ok hF
  have h00:(0:Int)≤0:=Int.le_refl _
  have h0n:0+nn≤1000000:=by omega
  refine oS fun _ hK1=>?_;refine oW T_mHb151_ok ?_;simp only[go_sem];refine hK1 _ ?_;refine oS fun _ hK2=>?_
  refine oR T_mHb151_ok
    [[],[],[1],[0,1,2],[],[],[0,1,2,3,4,5],[0,1,2,3,4,5,6]]
    [[244,245,246,247,248,249,250,251,252,253,254,255,256,257,258,259,260,261,262,263],[],[],[],[244,245,246,247,248,249,250,251,252,253,254,255,256,257,258,259,260,261,262,263,264,265,266,267,268,269,270,271,272,273,274,275],[244,245,246,247,248,249,250,251,252,253,254,255,256,257,258,259,260,261,262,263,264,265,266,267,268,269,270,271,272,273,274,275],[],[]]
    [[],[],[244,245,246,247,248,249,250,251,252,253,254,255,256,257,258,259,260,261,262,263],[260,261,262,263,264,265,266,267,268,269,270,271,272,273,274,275],[],[],[],[]] (by kernel_rfl) (by kernel_rfl) (adrawR_ok (acc:=[]) ?_)
  simp (maxSteps:=2000000)only[go_sem];repeat (with_reducible first | refine oD ?_ | refine And.intro (by first | exact hP | exact ⟨hP,hs0⟩ | exact ⟨hP,hs0,hin,h00,hn1,h0n⟩ | exact ⟨hP,vals0_ok _,hs0,hin,h00,hn1,h0n⟩ | exact ⟨hP,rfl,vals0_ok _,hs0,hin,h00,hn1,h0n⟩ | exact ⟨hP,hs0,hin,hn2⟩ | exact ⟨hP,hs0,hin,hn1,hn2⟩ | exact ⟨hP,hs0,hin,h00,hn1,hn2⟩ | exact ⟨hP,vals0_ok _,hs0,hin,hn2⟩ | exact ⟨hP,vals0_ok _,hs0,hin,hn1,hn2⟩ | exact ⟨hP,vals0_ok _,hs0,hin,h00,hn1,hn2⟩) ?_)
  refine hK2 _ ?_;refine AWP_ret ?_;simp only[hres,go_sem];first | exact oF | exact oFr
def T_implRender0:Tab:=fun f=>if f=36 then some (.p K_implRender0) else T_mHb151 f
theorem T_implRender0_ok:TabOk Tryz.prog T_implRender0:=tabP implRender0_ok (fnOk_of Tryz.func36 rfl (by decide)) T_mHb151_ok
attribute [go_sem] T_implRender0 K_implRender0
def T_implRender:Tab:=T_implRender0
theorem T_implRender_ok:TabOk Tryz.prog T_implRender:=T_implRender0_ok
attribute [go_sem] T_implRender
end Go.Proofs.YtgmabhkmiokiaaaGreat
