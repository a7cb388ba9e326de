/-
  Texts of this claim, joined (part 49). No condition beyond those of the theorems.
-/
import Derived.Test.YtgmabhkmiokiaaaGreatVa48
import Derived.Test.YtgmabhkmiokiaaaGreatVa08
import Derived.Test.YtgmabhkmiokiaaaGreatVa44
import Derived.Test.YtgmabhkmiokiaaaGreatVa05
import Derived.Test.YtgmabhkmiokiaaaGreatVa37
import Derived.Test.YtgmabhkmiokiaaaGreatVa02
import Derived.Test.YtgmabhkmiokiaaaGreatVa21
import Derived.Test.YtgmabhkmiokiaaaGreatVa39
import Derived.Test.YtgmabhkmiokiaaaGreatVa40
import Derived.Test.YtgmabhkmiokiaaaGreatVa45
namespace Go.Proofs.YtgmabhkmiokiaaaGreat
open Go.RowKit
set_option linter.unusedSimpArgs false
set_option linter.unusedVariables false
set_option maxRecDepth 100000
set_option maxHeartbeats 4000000
def T_mHb160:Tab:=fun f=>match T_l08Block f with
 | some k=>some k
 | none=>T_l06Start f
theorem T_mHb160_ok:TabOk Tryz.prog T_mHb160:=tabM T_l08Block_ok T_l06Start_ok
attribute [go_sem] T_mHb160 T0
def T_mHb161:Tab:=fun f=>match T_mHb160 f with
 | some k=>some k
 | none=>T_l07Own f
theorem T_mHb161_ok:TabOk Tryz.prog T_mHb161:=tabM T_mHb160_ok T_l07Own_ok
attribute [go_sem] T_mHb161 T0
def K_l08Start:GCon where
  ps:=[.ptr ((.prod (.int .i64) (.prod (.row 26 (.row 2 (.int .i64))) (.prod (.row 93 (.prod (.int .i64) (.prod (.int .i64) (.prod (.int .i64) (.row 2 (.int .i64)))))) (.row 2 (.int .i64))))))]
  os:=[]
  c:=fun x=>patchB x.1.1=true
  r:=fun _=>.agg [.ow 10]
  o:=fun x=>[(10,.tree 26 (.row 2 (.int .i64)) (startL x.1.1) none)]
  ok:=by
    rintro ⟨⟨⟨(pi:Int),(ts:List (List Int)),(ns:List NodeD),(os:List Int)⟩,_⟩,_⟩
    exact ⟨rfl,rfl,by decide⟩
theorem l08Start_ok:GenT Tryz.prog 54 K_l08Start:=by
  refine gen_of_body Tryz.func54 rfl ?_
  have hres:Tryz.f54.results.toList=[.cell 2 84]:=rfl
  rintro ⟨⟨⟨(pi:Int),(ts:List (List Int)),(ns:List NodeD),(os:List Int)⟩,_⟩,_⟩ hc hL hO
  simp only[K_l08Start,go_sem] at hL
  simp only[K_l08Start,go_sem] at hO
  simp only[K_l08Start,St.init,St.initG,Tryz.ntmps54,go_sem] 
  have hP:patchB (pi,ts,ns,os)=true:=hc
  have hF:=(patchB_parts hP).1
  have hn24:ns.length≤24:=(formedB_parts hF).1
  refine oS fun _ hK1=>?_;refine oW T_mHb161_ok ?_;simp only[go_sem];refine hK1 _ ?_;refine oS fun _ hK2=>?_;refine oW T_mHb161_ok ?_;simp only[List.nodup_cons,List.nodup_nil,List.not_mem_nil,not_false_eq_true,go_sem];repeat (with_reducible refine oA ?_)
  refine hK2 _ ?_;refine oS fun _ hK3=>?_;refine oS fun _ hK4=>?_;refine oW T_mHb161_ok ?_;simp only[go_sem];refine hK4 _ ?_;refine AWP_block ?_;refine AWP_loop_k (ι:={ k:Nat // k≤ns.length }) (fun k=>⟨[.c (.pt [] ((.prod (.int .i64) (.prod (.row 26 (.row 2 (.int .i64))) (.prod (.row 93 (.prod (.int .i64) (.prod (.int .i64) (.prod (.int .i64) (.row 2 (.int .i64)))))) (.row 2 (.int .i64)))))) (pi,ts,ns,os) 0),zz,.c (.po 132 0),.c (.po 148 0),.c (.sc (.int .i64 (k.1))),zz,zz,zz,zz,zz,zz,zz,zz,zz,zz,zz,zz,zz,zz,zz,zz,zz,zz,zz,zz,zz,zz,zz,zz],[(132,.box [.sc (.slice none 0 0)]),(148,.box [.ow 9001]),(9001,.tree 26 (.row 2 (.int .i64)) (((ns.take k.1).map startV)) none)]⟩) (fun k=>ns.length - k.1) ⟨0,by simp⟩ ?_ ?_
  ·
   refine oK ?_;simp (maxSteps:=2000000)only[go_sem];all_goals ((repeat' refine And.intro ?_ ?_)<;>first | rfl | (congr 1; done) | (simp; done))
  rintro ⟨k,hk⟩ K5 hL5
  have hml:((ns.take k).map startV).length≤24:=by rw [List.length_map,List.length_take]; omega
  have hnc:k < ns.length→nodeC (ns.getD k (0,0,0,[])):=fun h=>⟨_,(nodeIn_parts (node_at (p:=(pi,ts,ns,os)) (patchB_parts hP).1 h)).1⟩
  have hnx:k < ns.length→(ns.take k).map startV++[startV (ns.getD k (0,0,0,[]))]=(ns.take (k+1)).map startV:=fun h=>map_next3 _ h
  refine oS fun _ hK6=>?_;refine oS fun _ hK7=>?_;refine oW T_mHb161_ok ?_;simp (maxSteps:=2000000)only[go_sem];repeat (with_reducible refine oA ?_)
  refine hK7 _ ?_;refine oC rfl ?_ ?_
  ·
   intro c0;refine AWP_skip ?_;simp only[go_sem];refine hK6 _ ?_;refine oS fun _ hK8=>?_;refine AWP_block ?_
   refine oR T_mHb161_ok
     [[],[0],[],[2],[2,3],[2,3,4],[],[2,3,4,5,6],[2,3,4,5,6,7],[2,3,4,5,6,7,8],[0,1,2,3,4,5,6,7,8,9],[0,1,2,3,4,5,6,7,8,9,10],[0,1,2,3,4,5,6,7,8,9,10,11]]
     [[484,485,486,487,488,489,490,491,492,493,494,495,496,497,498,499,500],[484,485,486,487,488,489,490,491,492,493,494,495,496,497,498,499,500],[],[],[],[],[],[],[],[],[],[],[]]
     [[],[],[],[],[],[],[],[],[484,485,486,487,488,489,490,491,492,493,494,495,496,497,498,499],[484,485,486,487,488,489,490,491,492,493,494,495,496,497,498,499,500],[],[],[]] (by kernel_rfl) (by kernel_rfl) (adrawR_ok (acc:=[]) ?_)
   simp (maxSteps:=2000000)only[List.nodup_cons,List.nodup_nil,List.not_mem_nil,not_false_eq_true,go_sem];repeat (with_reducible first | refine oD ?_ | refine And.intro (by first | exact hnc (by omega)) ?_)
   refine hK8 _ ?_;refine oW T_mHb161_ok ?_;simp only[go_sem];refine hL5 ⟨k+1,by omega⟩ _ (oK ?_) ?_
   ·
    simp (maxSteps:=2000000)only[go_sem];all_goals ((repeat' refine And.intro ?_ ?_)<;>first | rfl | exact wk (by omega) | (congr 1; exact hnx (by omega)) | exact hnx (by omega))
   ·
    first | (simp only[]; omega) | omega | (simp; omega)
  intro c0;refine AWP_exit ?_;simp only[go_sem];refine hK3 _ ?_;refine oS fun _ hK9=>?_;refine oW T_mHb161_ok ?_;simp only[go_sem];repeat (with_reducible refine oA ?_)
  refine hK9 _ ?_;refine AWP_ret ?_;simp only[hres,go_sem];first | exact oG | (refine ⟨oG,?_⟩; (repeat' refine And.intro ?_ ?_)<;>first | rfl | (congr 1; exact congrArg (List.map startV) (List.take_of_length_le (by omega))) | (congr 1; done))
def T_l08Start:Tab:=fun f=>if f=54 then some (.g K_l08Start) else T_mHb161 f
theorem T_l08Start_ok:TabOk Tryz.prog T_l08Start:=tabG l08Start_ok (fnOk_of Tryz.func54 rfl (by decide)) T_mHb161_ok
attribute [go_sem] T_l08Start K_l08Start
def K_l08Render:Con:=⟨[.ptr (.prod (.int .i64) (.prod (.row 26 (.row 2 (.int .i64))) (.prod (.row 93 (.prod (.int .i64) (.prod (.int .i64) (.prod (.int .i64) (.row 2 (.int .i64)))))) (.row 2 (.int .i64))))),.val ((.row 26 (.row 2 (.int .i64)))),.val (.int .i64)],[⟨(.row 26 (.row 2 (.int .i64))),true⟩],fun x=>patchB x.1=true∧insOk x.1 x.2.1∧inR x.2.2.1 0 1000000=true,fun x=>renderL x.1 x.2.1 (Int.toNat x.2.2.1)⟩
theorem l08Render_ok:PureT Tryz.prog 26 K_l08Render:=by
  refine pure_of_body Tryz.func26 rfl ?_
  have hres:Tryz.f26.results.toList=[.tmp 6]:=rfl
  rintro ⟨⟨(pi:Int),(ts:List (List Int)),(ns:List NodeD),(os:List Int)⟩,(ins:List (List Int)),(nn:Int),_⟩ hc hL
  simp only[K_l08Render,go_sem] at hL
  simp only[K_l08Render,St.init,St.initG,Tryz.ntmps26,go_sem] 
  obtain ⟨hP,hin,hnr⟩:=(show patchB (pi,ts,ns,os)=true∧insOk (pi,ts,ns,os) ins∧inR nn 0 1000000=true from hc)
  obtain ⟨hn1,hn2⟩:=inR_iff.1 hnr
  have hF:=(patchB_parts hP).1
  have hs0:=startL_ok hF
  have h00:(0:Int)≤0:=Int.le_refl _
  have h0n:0+nn≤1000000:=by omega
  refine oS fun _ hK1=>?_;refine oW T_l08Start_ok ?_;simp only[go_sem];refine hK1 _ ?_;refine oS fun _ hK2=>?_;refine oW T_l08Start_ok ?_;simp only[go_sem];repeat (with_reducible first | refine oA ?_ | refine And.intro (by first | exact hP | exact ⟨hP,hs0⟩ | exact ⟨hP,hs0,hin,h00,hn1,h0n⟩ | exact ⟨hP,vals0_ok _,hs0,hin,h00,hn1,h0n⟩ | exact ⟨hP,rfl,vals0_ok _,hs0,hin,h00,hn1,h0n⟩ | exact ⟨hP,hs0,hin,hn2⟩ | exact ⟨hP,hs0,hin,hn1,hn2⟩ | exact ⟨hP,hs0,hin,h00,hn1,hn2⟩ | exact ⟨hP,vals0_ok _,hs0,hin,hn2⟩ | exact ⟨hP,vals0_ok _,hs0,hin,hn1,hn2⟩ | exact ⟨hP,vals0_ok _,hs0,hin,h00,hn1,hn2⟩) ?_)
  refine hK2 _ ?_;refine oS fun _ hK3=>?_;refine oW T_l08Start_ok ?_;simp (maxSteps:=2000000)only[go_sem];repeat (with_reducible first | refine oA ?_ | refine And.intro (by first | exact hP | exact ⟨hP,hs0⟩ | exact ⟨hP,hs0,hin,h00,hn1,h0n⟩ | exact ⟨hP,vals0_ok _,hs0,hin,h00,hn1,h0n⟩ | exact ⟨hP,rfl,vals0_ok _,hs0,hin,h00,hn1,h0n⟩ | exact ⟨hP,hs0,hin,hn2⟩ | exact ⟨hP,hs0,hin,hn1,hn2⟩ | exact ⟨hP,hs0,hin,h00,hn1,hn2⟩ | exact ⟨hP,vals0_ok _,hs0,hin,hn2⟩ | exact ⟨hP,vals0_ok _,hs0,hin,hn1,hn2⟩ | exact ⟨hP,vals0_ok _,hs0,hin,h00,hn1,hn2⟩) ?_)
  refine hK3 _ ?_;refine AWP_ret ?_;simp only[hres,go_sem];first | exact oF | exact oFr
def T_l08Render:Tab:=fun f=>if f=26 then some (.p K_l08Render) else T_l08Start f
theorem T_l08Render_ok:TabOk Tryz.prog T_l08Render:=tabP l08Render_ok (fnOk_of Tryz.func26 rfl (by decide)) T_l08Start_ok
attribute [go_sem] T_l08Render K_l08Render
def T_specRender:Tab:=T_l08Render
theorem T_specRender_ok:TabOk Tryz.prog T_specRender:=T_l08Render_ok
attribute [go_sem] T_specRender
set_option maxRecDepth 100000
set_option maxHeartbeats 4000000
def T_mHb170:Tab:=fun f=>match T_implRender f with
 | some k=>some k
 | none=>T_specRender f
theorem T_mHb170_ok:TabOk Tryz.prog T_mHb170:=tabM T_implRender_ok T_specRender_ok
attribute [go_sem] T_mHb170 T0
def K_l08Impulse:Con:=⟨[.ptr (.prod (.int .i64) (.prod (.row 26 (.row 2 (.int .i64))) (.prod (.row 93 (.prod (.int .i64) (.prod (.int .i64) (.prod (.int .i64) (.row 2 (.int .i64)))))) (.row 2 (.int .i64))))),.val (.int .i64)],[⟨(.row 26 (.row 2 (.int .i64))),true⟩],fun x=>0≤x.2.1∧x.2.1 < x.1.1∧x.1.1≤4,fun x=>impIn x.1.1 x.2.1⟩
theorem l08Impulse_ok:PureT Tryz.prog 27 K_l08Impulse:=by
  refine pure_of_body Tryz.func27 rfl ?_
  have hres:Tryz.f27.results.toList=[.tmp 4]:=rfl
  rintro ⟨⟨(pi:Int),(ts:List (List Int)),(ns:List NodeD),(os:List Int)⟩,(ii:Int),_⟩ hc hL
  simp only[K_l08Impulse,go_sem] at hL
  simp only[K_l08Impulse,St.init,St.initG,Tryz.ntmps27,go_sem] 
  obtain ⟨h1,h2,h3⟩:=(show 0≤ii∧ii < pi∧pi≤4 from hc)
  have hrl:(List.replicate pi.toNat ([]:List Int)).length=pi.toNat:=List.length_replicate
  refine oS fun _ hK1=>?_;refine oW T_mHb170_ok ?_;simp only[go_sem];refine hK1 _ ?_;refine oS fun _ hK2=>?_;refine oW T_mHb170_ok ?_;simp (maxSteps:=2000000)only[List.nodup_nil,go_sem];repeat (with_reducible first | refine oA ?_ | refine And.intro (by first | exact ⟨by omega,by omega⟩) ?_)
  refine hK2 _ ?_;refine oS fun _ hK3=>?_;refine oW T_mHb170_ok ?_;simp (maxSteps:=2000000)only[List.nodup_cons,List.nodup_nil,List.not_mem_nil,not_false_eq_true,go_sem];repeat (with_reducible first | refine oA ?_ | refine And.intro (by first | exact ⟨by omega,by omega⟩ | omega) ?_)
  refine hK3 _ ?_;refine oS fun _ hK4=>?_;refine oW T_mHb170_ok ?_;simp only[go_sem];refine hK4 _ ?_;refine AWP_ret ?_;simp only[hres,go_sem];first | exact oF | exact oFr
def T_l08Impulse:Tab:=fun f=>if f=27 then some (.p K_l08Impulse) else T_mHb170 f
theorem T_l08Impulse_ok:TabOk Tryz.prog T_l08Impulse:=tabP l08Impulse_ok (fnOk_of Tryz.func27 rfl (by decide)) T_mHb170_ok
attribute [go_sem] T_l08Impulse K_l08Impulse
def K_specImp:Con:=⟨[.val ((.prod (.int .i64) (.prod (.row 26 (.row 2 (.int .i64))) (.prod (.row 93 (.prod (.int .i64) (.prod (.int .i64) (.prod (.int .i64) (.row 2 (.int .i64)))))) (.row 2 (.int .i64)))))),.val (.int .i64),.val (.int .i64),.val (.int .i64)],[⟨(.row 2 (.int .i64)),true⟩,⟨.int .i64,true⟩],fun _=>True,fun x=>impR x.1 x.2.1 x.2.2.1 x.2.2.2.1⟩
theorem specImp_ok:PureT Tryz.prog 10 K_specImp:=by
  refine pure_of_body Tryz.func10 rfl ?_
  have hres:Tryz.f10.results.toList=[.tmp 8,.tmp 9]:=rfl
  rintro ⟨⟨(pi:Int),(ts:List (List Int)),(ns:List NodeD),(os:List Int)⟩,(ii:Int),(oi:Int),(nn:Int),_⟩ hc hL
  simp only[K_specImp,go_sem] at hL
  simp only[K_specImp,St.init,St.initG,Tryz.ntmps10,go_sem] 
  refine oS fun _ hK1=>?_;refine oW T_l08Impulse_ok ?_;simp only[go_sem];refine hK1 _ ?_;refine oS fun _ hK2=>?_;refine oS fun _ hK3=>?_;refine oW T_l08Impulse_ok ?_;simp only[go_sem];repeat (with_reducible refine oA ?_)
  refine hK3 _ ?_;refine oC rfl ?_ ?_
  ·
   intro c0;refine oS fun _ hK4=>?_;refine oW T_l08Impulse_ok ?_;simp only[go_sem];refine hK4 _ ?_;refine AWP_ret ?_;simp only[hres,go_sem];first | exact oF | (refine ⟨?_,oF⟩; first | (rw [impR_1 c0]; exact ⟨rfl,rfl⟩) | (rw [impR_1 c0]))
  intro c0;have hF:=(patchB_parts c0).1
  have hpi0:0≤pi∧pi≤4:=⟨(formedB_parts hF).2.2.2.1,(formedB_parts hF).2.2.2.2.1⟩
  have ho4:os.length≤4:=(formedB_parts hF).2.1
  have hwp:IntKind.i64.wrap (pi - 1)=pi - 1:=wrapI (by omega)
  have hwo:IntKind.i64.wrap ((os.length:Int) - 1)=os.length - 1:=wrapI (by omega)
  refine AWP_skip ?_;simp only[go_sem];refine hK2 _ ?_;refine oS fun _ hK5=>?_;refine oS fun _ hK6=>?_;refine oW T_l08Impulse_ok ?_;simp (maxSteps:=2000000)only[hwp,hwo,go_sem];repeat' (with_reducible first | refine oA ?_ | refine oT (fun g3=>?_) (fun g3=>?_) | refine oE (fun g3=>?_) (fun g3=>?_))
  all_goals
   refine hK6 _ ?_;refine AWP_cond rfl ?_ ?_
   ·
    intro c1;try simp only[zA,zB,zC,zD,zE,zF,zG,zH,zI] at c1
    all_goals
     refine oS fun _ hK7=>?_;refine oW T_l08Impulse_ok ?_;simp only[go_sem];refine hK7 _ ?_;refine AWP_ret ?_;simp only[hres,go_sem]
     first
      | exact oF
      | refine ⟨?_,oF⟩
        have hK:(inR ii 0 (pi - 1) && (inR oi 0 ((os.length:Int) - 1) && inR nn 0 4000))=false:=by first | (rw [show inR ii 0 (pi - 1)=false by assumption]; rfl) | (rw [show inR oi 0 ((os.length:Int) - 1)=false by assumption,Bool.false_and,Bool.and_false]) | (rw [show inR nn 0 4000=false by assumption,Bool.and_false,Bool.and_false])
        first | (rw [impR_2 c0 hK]; exact ⟨rfl,rfl⟩) | (rw [impR_2 c0 hK])
   ·
    intro c1;try simp only[zA,zB,zC,zD,zE,zF,zG,zH,zI] at c1
    all_goals
     have hk1:inR ii 0 (pi - 1)=true:=by assumption
     have hk2:inR oi 0 ((os.length:Int) - 1)=true:=by assumption
     have hk3:inR nn 0 4000=true:=by assumption
     have hK:(inR ii 0 (pi - 1) && (inR oi 0 ((os.length:Int) - 1) && inR nn 0 4000))=true:=by rw [hk1,hk2,hk3]; rfl
     obtain ⟨q1,q2⟩:=inR_iff.1 hk1
     obtain ⟨q3,q4⟩:=inR_iff.1 hk2
     obtain ⟨q5,q6⟩:=inR_iff.1 hk3
     have hio:insOk (pi,ts,ns,os) (impIn pi ii):=impIn_ok (p:=(pi,ts,ns,os)) hpi0.1
     have hrc:patchB (pi,ts,ns,os)=true∧insOk (pi,ts,ns,os) (impIn pi ii)∧inR nn 0 1000000=true:=⟨c0,hio,inR_t (by omega) (by omega)⟩
     have hll:(renderL (pi,ts,ns,os) (impIn pi ii) nn.toNat).length=os.length:=renderL_len hF hio _
     have hq2:ii < pi:=by omega
     have hrl:(List.replicate pi.toNat ([]:List Int)).length=pi.toNat:=List.length_replicate
     have himp:(List.replicate pi.toNat ([]:List Int)).set ii.toNat [1]=impIn pi ii:=rfl
     refine AWP_skip ?_;simp only[go_sem];refine hK5 _ ?_;refine oS fun _ hK8=>?_;refine oW T_l08Impulse_ok ?_;simp (maxSteps:=2000000)only[hll,go_sem];repeat (with_reducible first | refine oA ?_ | refine And.intro (by first | exact ⟨q1,hq2,hpi0.2⟩ | exact hrc) ?_)
     refine hK8 _ ?_;refine AWP_takeT 8 9001 ?_
     simp (maxSteps:=2000000)only[go_sem];repeat (with_reducible refine And.intro (by first | omega | decide) ?_)
     refine AWP_ret ?_;simp only[hres,go_sem];first | exact oF | (refine ⟨?_,oF⟩; first | (rw [impR_0 c0 hK]; exact ⟨rfl,rfl⟩) | (rw [impR_0 c0 hK]))
def T_specImp:Tab:=fun f=>if f=10 then some (.p K_specImp) else T_l08Impulse f
theorem T_specImp_ok:TabOk Tryz.prog T_specImp:=tabP specImp_ok (fnOk_of Tryz.func10 rfl (by decide)) T_l08Impulse_ok
attribute [go_sem] T_specImp K_specImp
set_option maxRecDepth 100000
set_option maxHeartbeats 16000000
def T_mHx230:Tab:=fun f=>match T_e8Inputs f with
 | some k=>some k
 | none=>T_response f
theorem T_mHx230_ok:TabOk Tryz.prog T_mHx230:=tabM T_e8Inputs_ok T_response_ok
attribute [go_sem] T_mHx230 T0
def T_mHx231:Tab:=fun f=>match T_mHx230 f with
 | some k=>some k
 | none=>T_v8Same f
theorem T_mHx231_ok:TabOk Tryz.prog T_mHx231:=tabM T_mHx230_ok T_v8Same_ok
attribute [go_sem] T_mHx231 T0
def T_mHx232:Tab:=fun f=>match T_mHx231 f with
 | some k=>some k
 | none=>T_specTrnOfX f
theorem T_mHx232_ok:TabOk Tryz.prog T_mHx232:=tabM T_mHx231_ok T_specTrnOfX_ok
attribute [go_sem] T_mHx232 T0
def T_mHx233:Tab:=fun f=>match T_mHx232 f with
 | some k=>some k
 | none=>T_specImp f
theorem T_mHx233_ok:TabOk Tryz.prog T_mHx233:=tabM T_mHx232_ok T_specImp_ok
attribute [go_sem] T_mHx233 T0
theorem aseq_tk {P:Program} {G:TypeId→Option Ty} {T:Tab} {all l:List Oper} {σ:St} {K:St→Prop} (n:Nat) (hn:Nat.ble l.length n=true) (h:aseq P G T all (l.take n) σ K):aseq P G T all l σ K:=by
  rwa [List.take_of_length_le (Nat.le_of_ble_eq_true hn)] at h
def K_lawFnTrn:Con:=⟨[.val ((.row 5 (.int .u8))),.val ((.row 5 (.int .u8)))],[⟨.bool,true⟩],fun x=>(∀ b∈(x.1:List Int),0≤b∧b≤255)∧∀ b∈(x.2.1:List Int),0≤b∧b≤255,fun _=>true⟩
theorem lawFnTrn_ok:PureT Tryz.prog 3 K_lawFnTrn:=by
  refine pure_of_body Tryz.func3 rfl ?_
  have hres:Tryz.f3.results.toList=[.tmp 4]:=rfl
  rintro ⟨(cd:List Int),(mr:List Int),_⟩ hc hL
  simp only[K_lawFnTrn,go_sem] at hL
  simp only[K_lawFnTrn,St.init,St.initG,Tryz.ntmps3,go_sem] 
  obtain ⟨hcd,hmr⟩:=(show (∀ b∈cd,0≤b∧b≤255)∧∀ b∈mr,0≤b∧b≤255 from hc)
  obtain ⟨hP0,hL0⟩:=linC_lin hcd
  have hp02:=(linC_ok hcd).2.2.1
  have ho02:=(linC_ok hcd).2.2.2
  rcases hC:linC cd with ⟨pi,ts,ns,os⟩
  rw [hC] at hP0 hL0 hp02 ho02
  have hp1:1≤pi∧pi≤2:=hp02
  have ho1:1≤os.length∧os.length≤2:=ho02
  obtain ⟨ii,hii⟩ :∃ii,v8D mr 0 pi=ii:=⟨_,rfl⟩
  obtain ⟨oo,hoo⟩ :∃oo,v8D mr 1 (os.length:Int)=oo:=⟨_,rfl⟩
  have hir:=v8D_rng hmr (k:=0) (n:=pi) (by omega) hp1.1
  have hor:=v8D_rng hmr (k:=1) (n:=(os.length:Int)) (by omega) (by omega)
  rw [hii] at hir;rw [hoo] at hor;rcases htr:trnR (pi,ts,ns,os) ii oo with ⟨⟨na,da⟩,ec⟩
  have h00:inR 0 0 1000=true:=rfl
  have h01:inR 1 0 1000=true:=rfl
  have h60:inR 60 0 4000=true:=rfl
  refine oS fun _ hK1=>?_;refine oW T_mHx233_ok ?_;refine aseq_tk 200 (by rfl) ?_
  simp only[go_sem];refine hK1 _ ?_;refine oS fun _ hK2=>?_;refine oS fun _ hK3=>?_;refine oW T_mHx233_ok ?_;refine aseq_tk 200 (by rfl) ?_
  simp only[go_sem];repeat (with_reducible refine oA ?_)
  refine hK3 _ ?_;refine oC rfl ?_ ?_
  ·
   intro c0;refine oS fun _ hK4=>?_;refine oW T_mHx233_ok ?_;refine aseq_tk 200 (by rfl) ?_
   simp only[go_sem];refine hK4 _ ?_;refine AWP_ret ?_;simp only[hres,go_sem];first | exact oF | (refine ⟨?_,oF⟩; first | rfl | done | (exfalso; omega))
  intro c0;refine AWP_skip ?_;simp only[go_sem];refine hK2 _ ?_;refine oS fun _ hK5=>?_;refine oW T_mHx233_ok ?_;refine aseq_tk 200 (by rfl) ?_
  simp only[List.nodup_cons,List.nodup_nil,List.not_mem_nil,not_false_eq_true,hC,go_sem];repeat (with_reducible first | refine oA ?_ | refine And.intro (by first | exact hcd) ?_)
  refine hK5 _ ?_;refine oS fun _ hK6=>?_;refine oW T_mHx233_ok ?_;refine aseq_tk 200 (by rfl) ?_
  simp (maxSteps:=2000000)only[List.nodup_cons,List.nodup_nil,List.not_mem_nil,not_false_eq_true,hii,go_sem];repeat (with_reducible first | refine oA ?_ | refine And.intro (by first | exact h00) ?_)
  refine hK6 _ ?_;refine oS fun _ hK7=>?_;refine oW T_mHx233_ok ?_;refine aseq_tk 200 (by rfl) ?_
  simp (maxSteps:=2000000)only[List.nodup_cons,List.nodup_nil,List.not_mem_nil,not_false_eq_true,hoo,go_sem];repeat (with_reducible first | refine oA ?_ | refine And.intro (by first | exact h01) ?_)
  refine hK7 _ ?_;refine oS fun _ hK8=>?_;refine oW T_mHx233_ok ?_;refine aseq_tk 200 (by rfl) ?_
  simp (maxSteps:=2000000)only[List.nodup_cons,List.nodup_nil,List.not_mem_nil,not_false_eq_true,htr,go_sem];repeat (with_reducible refine oA ?_)
  refine hK8 _ ?_;refine oS fun _ hK9=>?_;refine oS fun _ hK10=>?_;refine oW T_mHx233_ok ?_;refine aseq_tk 200 (by rfl) ?_
  simp only[go_sem];refine hK10 _ ?_;refine oC rfl ?_ ?_
  ·
   intro c1
   have hne:¬ linCode (pi,ts,ns,os)=0:=fun h0=>by
     have hk:=linOk_of h0
     have hK:(inR ii 0 (pi - 1) && inR oo 0 ((os.length:Int) - 1))=true:=by rw [inR_t hir.1 (by omega),inR_t hor.1 (by omega)]; rfl
     have h2:=trnR_0 (p:=(pi,ts,ns,os)) h0 hK
     rw [htr] at h2;have h3:ec=0:=congrArg Prod.snd h2
     first | exact c1 h3 | omega
   have hec:ec=linCode (pi,ts,ns,os):=by have h2:=trnR_f (p:=(pi,ts,ns,os)) (i:=ii) (o:=oo) hne; rw [htr] at h2; exact congrArg Prod.snd h2
   refine oS fun _ hK11=>?_;refine oW T_mHx233_ok ?_;refine aseq_tk 200 (by rfl) ?_
   simp (maxSteps:=2000000)only[List.nodup_cons,List.nodup_nil,List.not_mem_nil,not_false_eq_true,go_sem];repeat (with_reducible first | refine oA ?_ | refine And.intro (by first | exact hne) ?_)
   refine hK11 _ ?_;refine oS fun _ hK12=>?_;refine oW T_mHx233_ok ?_;refine aseq_tk 200 (by rfl) ?_
   simp only[go_sem];refine hK12 _ ?_;refine AWP_ret ?_;simp only[hres,go_sem]
   first
    | exact oF
    | refine ⟨?_,oF⟩
      rw [hec];first | done | rfl | simp
  intro c1;have he0:ec=0:=by first | assumption | omega
  have hl0:linCode (pi,ts,ns,os)=0:=by
    by_cases h:linCode (pi,ts,ns,os)=0
    · exact h
    · have h2:=trnR_f (p:=(pi,ts,ns,os)) (i:=ii) (o:=oo) h
      rw [htr] at h2;have h3:ec=linCode (pi,ts,ns,os):=congrArg Prod.snd h2
      omega
  have hk:=linOk_of hl0
  rcases hX:linM (trimP (pi,ts,ns,os)) with ⟨ni,la,lb,lc,ld⟩
  obtain ⟨hW,ha1,hni,hlo,hsq⟩:=linOk_x hk hX
  have hK:(inR ii 0 (pi - 1) && inR oo 0 ((os.length:Int) - 1))=true:=by rw [inR_t hir.1 (by omega),inR_t hor.1 (by omega)]; rfl
  have h2:=trnR_0 (p:=(pi,ts,ns,os)) hl0 hK
  rw [htr,hX] at h2;have h3:(na,da)=(trnL (ni,la,lb,lc,ld) ii oo):=congrArg Prod.fst h2
  have htb0:=trnL_ok (x:=(ni,la,lb,lc,ld)) ha1 ii oo
  have h25:=trnL_25 (x:=(ni,la,lb,lc,ld)) ha1 ii oo
  have himp0:=imp_rsp hk hX (i:=ii) (o:=oo) hir hor
  rw [← h3] at htb0 h25 himp0
  have htb:trB (na,da)=true:=htb0
  have hna:(na.length:Int)≤25:=by have h:na.length≤25:=h25.1; omega
  have hda:(da.length:Int)≤25:=by have h:da.length≤25:=h25.2.1; omega
  have hd1:1≤da.length:=h25.2.2
  have himp:impR (pi,ts,ns,os) ii oo 60=(quoV na da 60,0):=himp0
  have hrc:trB (na,da)=true∧inR 60 0 4000=true:=⟨htb,h60⟩
  refine AWP_skip ?_;simp only[go_sem];refine hK9 _ ?_;refine oS fun _ hK13=>?_;refine oW T_mHx233_ok ?_;refine aseq_tk 200 (by rfl) ?_
  simp (maxSteps:=2000000)only[List.nodup_cons,List.nodup_nil,List.not_mem_nil,not_false_eq_true,Int.reduceToNat,go_sem];repeat (with_reducible first | refine oA ?_ | refine And.intro (by first | exact hrc) ?_)
  refine hK13 _ ?_;refine oS fun _ hK14=>?_;refine oW T_mHx233_ok ?_;refine aseq_tk 200 (by rfl) ?_
  simp (maxSteps:=2000000)only[List.nodup_cons,List.nodup_nil,List.not_mem_nil,not_false_eq_true,himp,go_sem];repeat (with_reducible refine oA ?_)
  refine hK14 _ ?_;refine oS fun _ hK15=>?_;refine oW T_mHx233_ok ?_;refine aseq_tk 200 (by rfl) ?_
  simp (maxSteps:=2000000)only[List.nodup_cons,List.nodup_nil,List.not_mem_nil,not_false_eq_true,htb,hda,hna,eqD_rfl,go_sem];repeat' (with_reducible first | refine oA ?_ | refine And.intro (by first | exact hd1) ?_ | refine oT (fun g12=>?_) (fun g12=>?_) | refine oE (fun g12=>?_) (fun g12=>?_))
  all_goals
   refine hK15 _ ?_;refine AWP_ret ?_;simp only[hres,go_sem];first | exact oF | (refine ⟨?_,oF⟩; first | rfl | done | (exfalso; omega))
def T_lawFnTrn:Tab:=fun f=>if f=3 then some (.p K_lawFnTrn) else T_mHx233 f
attribute [go_sem] T_lawFnTrn K_lawFnTrn
end Go.Proofs.YtgmabhkmiokiaaaGreat
