/-
  Texts of this claim, joined (part 48). No condition beyond those of the theorems.
-/
import Derived.Test.YtflaacndokbddaaGreatVd47
import Derived.Test.YtflaacndokbddaaGreatVd09
import Derived.Test.YtflaacndokbddaaGreatVd42
import Derived.Test.YtflaacndokbddaaGreatVd06
namespace Go.Proofs.YtflaacndokbddaaGreat
open Go.RowKit
set_option linter.unusedSimpArgs false
set_option linter.unusedVariables false
set_option maxRecDepth 100000
set_option maxHeartbeats 4000000
def T_mHb160:Tab:=fun f=>match T_l08Block f with
 | some k=>some k
 | none=>T_l06Start f
theorem T_mHb160_ok:TabOk Tryz.prog T_mHb160:=tabM T_l08Block_ok T_l06Start_ok
attribute [go_sem] T_mHb160 T0
def T_mHb161:Tab:=fun f=>match T_mHb160 f with
 | some k=>some k
 | none=>T_l07Own f
theorem T_mHb161_ok:TabOk Tryz.prog T_mHb161:=tabM T_mHb160_ok T_l07Own_ok
attribute [go_sem] T_mHb161 T0
def K_l08Start:GCon where
  ps:=[.ptr ((.prod (.int .i64) (.prod (.row 26 (.row 2 (.int .i64))) (.prod (.row 90 (.prod (.int .i64) (.prod (.int .i64) (.prod (.int .i64) (.row 2 (.int .i64)))))) (.row 2 (.int .i64))))))]
  os:=[]
  c:=fun x=>patchB x.1.1=true
  r:=fun _=>.agg [.ow 10]
  o:=fun x=>[(10,.tree 26 (.row 2 (.int .i64)) (startL x.1.1) none)]
  ok:=by
    rintro ⟨⟨⟨(pi:Int),(ts:List (List Int)),(ns:List NodeD),(os:List Int)⟩,_⟩,_⟩
    exact ⟨rfl,rfl,by decide⟩
theorem l08Start_ok:GenT Tryz.prog 57 K_l08Start:=by
  refine gen_of_body Tryz.func57 rfl ?_
  have hres:Tryz.f57.results.toList=[.cell 2 39]:=rfl
  rintro ⟨⟨⟨(pi:Int),(ts:List (List Int)),(ns:List NodeD),(os:List Int)⟩,_⟩,_⟩ hc hL hO
  simp only[K_l08Start,go_sem] at hL
  simp only[K_l08Start,go_sem] at hO
  simp only[K_l08Start,St.init,St.initG,Tryz.ntmps57,go_sem] 
  have hP:patchB (pi,ts,ns,os)=true:=hc
  have hF:=(patchB_parts hP).1
  have hn24:ns.length≤24:=(formedB_parts hF).1
  refine oS fun _ hK1=>?_
  refine oW T_mHb161_ok ?_
  simp only[go_sem]
  refine hK1 _ ?_
  refine oS fun _ hK2=>?_
  refine oW T_mHb161_ok ?_
  simp only[List.nodup_cons,List.nodup_nil,List.not_mem_nil,not_false_eq_true,go_sem]
  repeat (with_reducible refine oA ?_)
  refine hK2 _ ?_
  refine oS fun _ hK3=>?_
  refine oS fun _ hK4=>?_
  refine oW T_mHb161_ok ?_
  simp only[go_sem]
  refine hK4 _ ?_
  refine AWP_block ?_
  refine AWP_loop_k (ι:={ k:Nat // k≤ns.length }) (fun k=>⟨[.c (.pt [] ((.prod (.int .i64) (.prod (.row 26 (.row 2 (.int .i64))) (.prod (.row 90 (.prod (.int .i64) (.prod (.int .i64) (.prod (.int .i64) (.row 2 (.int .i64)))))) (.row 2 (.int .i64)))))) (pi,ts,ns,os) 0),zz,.c (.po 132 0),.c (.po 148 0),.c (.sc (.int .i64 (k.1))),zz,zz,zz,zz,zz,zz,zz,zz,zz,zz,zz,zz,zz,zz,zz,zz,zz,zz,zz,zz,zz,zz,zz,zz],[(132,.box [.sc (.slice none 0 0)]),(148,.box [.ow 9001]),(9001,.tree 26 (.row 2 (.int .i64)) (((ns.take k.1).map startV)) none)]⟩) (fun k=>ns.length - k.1) ⟨0,by simp⟩ ?_ ?_
  ·
   refine oK ?_
   simp (maxSteps:=2000000)only[go_sem]
   all_goals ((repeat' refine And.intro ?_ ?_)<;>first | rfl | (congr 1; done) | (simp; done))
  rintro ⟨k,hk⟩ K5 hL5
  have hml:((ns.take k).map startV).length≤24:=by rw [List.length_map,List.length_take]; omega
  have hnc:k < ns.length→nodeC (ns.getD k (0,0,0,[])):=fun h=>⟨_,(nodeIn_parts (node_at (p:=(pi,ts,ns,os)) (patchB_parts hP).1 h)).1⟩
  have hnx:k < ns.length→(ns.take k).map startV++[startV (ns.getD k (0,0,0,[]))]=(ns.take (k+1)).map startV:=fun h=>map_next3 _ h
  refine oS fun _ hK6=>?_
  refine oS fun _ hK7=>?_
  refine oW T_mHb161_ok ?_
  simp (maxSteps:=2000000)only[go_sem]
  repeat (with_reducible refine oA ?_)
  refine hK7 _ ?_
  refine oC rfl ?_ ?_
  ·
   intro c0
   refine AWP_skip ?_
   simp only[go_sem]
   refine hK6 _ ?_
   refine oS fun _ hK8=>?_
   refine AWP_block ?_
   refine oR T_mHb161_ok
     [[],[0],[],[2],[2,3],[2,3,4],[],[2,3,4,5,6],[2,3,4,5,6,7],[2,3,4,5,6,7,8],[0,1,2,3,4,5,6,7,8,9],[0,1,2,3,4,5,6,7,8,9,10],[0,1,2,3,4,5,6,7,8,9,10,11]]
     [[484,485,486,487,488,489,490,491,492,493,494,495,496,497,498,499,500],[484,485,486,487,488,489,490,491,492,493,494,495,496,497,498,499,500],[],[],[],[],[],[],[],[],[],[],[]]
     [[],[],[],[],[],[],[],[],[484,485,486,487,488,489,490,491,492,493,494,495,496,497,498,499],[484,485,486,487,488,489,490,491,492,493,494,495,496,497,498,499,500],[],[],[]] (by kernel_rfl) (by kernel_rfl) (adrawR_ok (acc:=[]) ?_)
   simp (maxSteps:=2000000)only[List.nodup_cons,List.nodup_nil,List.not_mem_nil,not_false_eq_true,go_sem]
   repeat (with_reducible first | refine oD ?_ | refine And.intro (by first | exact hnc (by omega)) ?_)
   refine hK8 _ ?_
   refine oW T_mHb161_ok ?_
   simp only[go_sem]
   refine hL5 ⟨k+1,by omega⟩ _ (oK ?_) ?_
   ·
    simp (maxSteps:=2000000)only[go_sem]
    all_goals ((repeat' refine And.intro ?_ ?_)<;>first | rfl | exact wk (by omega) | (congr 1; exact hnx (by omega)) | exact hnx (by omega))
   ·
    first | (simp only[]; omega) | omega | (simp; omega)
  intro c0
  refine AWP_exit ?_
  simp only[go_sem]
  refine hK3 _ ?_
  refine oS fun _ hK9=>?_
  refine oW T_mHb161_ok ?_
  simp only[go_sem]
  repeat (with_reducible refine oA ?_)
  refine hK9 _ ?_
  refine AWP_ret ?_
  simp only[hres,go_sem]
  first | exact oG | (refine ⟨oG,?_⟩; (repeat' refine And.intro ?_ ?_)<;>first | rfl | (congr 1; exact congrArg (List.map startV) (List.take_of_length_le (by omega))) | (congr 1; done))
def T_l08Start:Tab:=fun f=>if f=57 then some (.g K_l08Start) else T_mHb161 f
theorem T_l08Start_ok:TabOk Tryz.prog T_l08Start:=tabG l08Start_ok (fnOk_of Tryz.func57 rfl (by decide)) T_mHb161_ok
attribute [go_sem] T_l08Start K_l08Start
def K_l08Render:Con:=⟨[.ptr (.prod (.int .i64) (.prod (.row 26 (.row 2 (.int .i64))) (.prod (.row 90 (.prod (.int .i64) (.prod (.int .i64) (.prod (.int .i64) (.row 2 (.int .i64)))))) (.row 2 (.int .i64))))),.val ((.row 26 (.row 2 (.int .i64)))),.val (.int .i64)],[⟨(.row 26 (.row 2 (.int .i64))),true⟩],fun x=>patchB x.1=true∧insOk x.1 x.2.1∧inR x.2.2.1 0 1000000=true,fun x=>renderL x.1 x.2.1 (Int.toNat x.2.2.1)⟩
theorem l08Render_ok:PureT Tryz.prog 65 K_l08Render:=by
  refine pure_of_body Tryz.func65 rfl ?_
  have hres:Tryz.f65.results.toList=[.tmp 6]:=rfl
  rintro ⟨⟨(pi:Int),(ts:List (List Int)),(ns:List NodeD),(os:List Int)⟩,(ins:List (List Int)),(nn:Int),_⟩ hc hL
  simp only[K_l08Render,go_sem] at hL
  simp only[K_l08Render,St.init,St.initG,Tryz.ntmps65,go_sem] 
  obtain ⟨hP,hin,hnr⟩:=(show patchB (pi,ts,ns,os)=true∧insOk (pi,ts,ns,os) ins∧inR nn 0 1000000=true from hc)
  obtain ⟨hn1,hn2⟩:=inR_iff.1 hnr
  have hF:=(patchB_parts hP).1
  have hs0:=startL_ok hF
  have h00:(0:Int)≤0:=Int.le_refl _
  have h0n:0+nn≤1000000:=by omega
  refine oS fun _ hK1=>?_
  refine oW T_l08Start_ok ?_
  simp only[go_sem]
  refine hK1 _ ?_
  refine oS fun _ hK2=>?_
  refine oW T_l08Start_ok ?_
  simp only[go_sem]
  repeat (with_reducible first | refine oA ?_ | refine And.intro (by first | exact hP | exact ⟨hP,hs0⟩ | exact ⟨hP,hs0,hin,h00,hn1,h0n⟩ | exact ⟨hP,vals0_ok _,hs0,hin,h00,hn1,h0n⟩ | exact ⟨hP,rfl,vals0_ok _,hs0,hin,h00,hn1,h0n⟩ | exact ⟨hP,hs0,hin,hn2⟩ | exact ⟨hP,hs0,hin,hn1,hn2⟩ | exact ⟨hP,hs0,hin,h00,hn1,hn2⟩ | exact ⟨hP,vals0_ok _,hs0,hin,hn2⟩ | exact ⟨hP,vals0_ok _,hs0,hin,hn1,hn2⟩ | exact ⟨hP,vals0_ok _,hs0,hin,h00,hn1,hn2⟩) ?_)
  refine hK2 _ ?_
  refine oS fun _ hK3=>?_
  refine oW T_l08Start_ok ?_
  simp (maxSteps:=2000000)only[go_sem]
  repeat (with_reducible first | refine oA ?_ | refine And.intro (by first | exact hP | exact ⟨hP,hs0⟩ | exact ⟨hP,hs0,hin,h00,hn1,h0n⟩ | exact ⟨hP,vals0_ok _,hs0,hin,h00,hn1,h0n⟩ | exact ⟨hP,rfl,vals0_ok _,hs0,hin,h00,hn1,h0n⟩ | exact ⟨hP,hs0,hin,hn2⟩ | exact ⟨hP,hs0,hin,hn1,hn2⟩ | exact ⟨hP,hs0,hin,h00,hn1,hn2⟩ | exact ⟨hP,vals0_ok _,hs0,hin,hn2⟩ | exact ⟨hP,vals0_ok _,hs0,hin,hn1,hn2⟩ | exact ⟨hP,vals0_ok _,hs0,hin,h00,hn1,hn2⟩) ?_)
  refine hK3 _ ?_
  refine AWP_ret ?_
  simp only[hres,go_sem]
  first | exact oF | exact oFr
def T_l08Render:Tab:=fun f=>if f=65 then some (.p K_l08Render) else T_l08Start f
theorem T_l08Render_ok:TabOk Tryz.prog T_l08Render:=tabP l08Render_ok (fnOk_of Tryz.func65 rfl (by decide)) T_l08Start_ok
attribute [go_sem] T_l08Render K_l08Render
def K_specRender:Con:=⟨[.val ((.prod (.int .i64) (.prod (.row 26 (.row 2 (.int .i64))) (.prod (.row 90 (.prod (.int .i64) (.prod (.int .i64) (.prod (.int .i64) (.row 2 (.int .i64)))))) (.row 2 (.int .i64)))))),.val ((.row 26 (.row 2 (.int .i64)))),.val (.int .i64)],[⟨(.row 26 (.row 2 (.int .i64))),true⟩,⟨.int .i64,true⟩],fun _=>True,fun x=>renderR x.1 x.2.1 x.2.2.1⟩
theorem specRender_ok:PureT Tryz.prog 20 K_specRender:=by
  refine pure_of_body Tryz.func20 rfl ?_
  have hres:Tryz.f20.results.toList=[.tmp 6,.tmp 7]:=rfl
  rintro ⟨⟨(pi:Int),(ts:List (List Int)),(ns:List NodeD),(os:List Int)⟩,(ins:List (List Int)),(nn:Int),_⟩ hc hL
  simp only[K_specRender,go_sem] at hL
  simp only[K_specRender,St.init,St.initG,Tryz.ntmps20,go_sem] 
  refine oS fun _ hK1=>?_
  refine oW T_l08Render_ok ?_
  simp only[go_sem]
  refine hK1 _ ?_
  refine oS fun _ hK2=>?_
  refine oS fun _ hK3=>?_
  refine oW T_l08Render_ok ?_
  simp only[go_sem]
  repeat (with_reducible refine oA ?_)
  refine hK3 _ ?_
  refine oC rfl ?_ ?_
  ·
   intro c0
   refine oS fun _ hK4=>?_
   refine oW T_l08Render_ok ?_
   simp only[go_sem]
   refine hK4 _ ?_
   refine AWP_ret ?_
   simp only[hres,go_sem]
   first | exact oF | (refine ⟨?_,oF⟩; first | (rw [renderR_1 c0]; exact ⟨rfl,rfl⟩) | (rw [renderR_1 c0]))
  intro c0
  refine AWP_skip ?_
  simp only[go_sem]
  refine hK2 _ ?_
  refine oS fun _ hK5=>?_
  refine oS fun _ hK6=>?_
  refine oW T_l08Render_ok ?_
  simp (maxSteps:=2000000)only[go_sem]
  repeat' (with_reducible first | refine oA ?_ | refine oT (fun g3=>?_) (fun g3=>?_) | refine oE (fun g3=>?_) (fun g3=>?_))
  all_goals
   refine hK6 _ ?_
   refine AWP_cond rfl ?_ ?_
   ·
    intro c1
    try simp only[zA,zB,zC,zD,zE,zF,zG,zH,zI] at c1
    all_goals
     refine oS fun _ hK7=>?_
     refine oW T_l08Render_ok ?_
     simp only[go_sem]
     refine hK7 _ ?_
     refine AWP_ret ?_
     simp only[hres,go_sem]
     first
      | exact oF
      | refine ⟨?_,oF⟩
        have hq:(sigB (pi,ts,ns,os) ins && inR nn 0 4000)=false:=by first | (rw [show sigB (pi,ts,ns,os) ins=false by assumption]; rfl) | (rw [show inR nn 0 4000=false by assumption,Bool.and_false])
        first | (rw [renderR_2 c0 hq]; exact ⟨rfl,rfl⟩) | (rw [renderR_2 c0 hq])
   ·
    intro c1
    try simp only[zA,zB,zC,zD,zE,zF,zG,zH,zI] at c1
    all_goals
     have hsg:sigB (pi,ts,ns,os) ins=true:=by assumption
     have hnz:inR nn 0 4000=true:=by assumption
     obtain ⟨hz1,hz2⟩:=inR_iff.1 hnz
     have hrc:patchB (pi,ts,ns,os)=true∧insOk (pi,ts,ns,os) ins∧inR nn 0 1000000=true:=⟨c0,sigB_iff.1 hsg,inR_t (by omega) (by omega)⟩
     refine AWP_skip ?_
     simp only[go_sem]
     refine hK5 _ ?_
     refine oS fun _ hK8=>?_
     refine oW T_l08Render_ok ?_
     simp (maxSteps:=2000000)only[go_sem]
     repeat (with_reducible first | refine oA ?_ | refine And.intro (by first | exact hrc) ?_)
     refine hK8 _ ?_
     refine AWP_ret ?_
     simp only[hres,go_sem]
     first
      | exact oF
      | refine ⟨?_,oF⟩
        have hq:(sigB (pi,ts,ns,os) ins && inR nn 0 4000)=true:=by rw [show sigB (pi,ts,ns,os) ins=true by assumption,show inR nn 0 4000=true by assumption]; rfl
        first | (rw [renderR_0 c0 hq]; exact ⟨rfl,rfl⟩) | (rw [renderR_0 c0 hq])
def T_specRender:Tab:=fun f=>if f=20 then some (.p K_specRender) else T_l08Render f
theorem T_specRender_ok:TabOk Tryz.prog T_specRender:=tabP specRender_ok (fnOk_of Tryz.func20 rfl (by decide)) T_l08Render_ok
attribute [go_sem] T_specRender K_specRender
end Go.Proofs.YtflaacndokbddaaGreat
