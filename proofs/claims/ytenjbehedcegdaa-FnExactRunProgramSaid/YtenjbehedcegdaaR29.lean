/-
  Texts of this claim, joined (part 29). No condition beyond those of the theorems.
-/
import Derived.Test.YtenjbehedcegdaaR20
import Derived.Test.YtenjbehedcegdaaR27
import Derived.Test.YtenjbehedcegdaaR28
namespace Go.Proofs.Ytenjbehedcegdaa
open Go.RowKit
set_option linter.unusedSimpArgs false
set_option linter.unusedVariables false
set_option maxRecDepth 100000
set_option maxHeartbeats 8000000
def T_mHp80:Tab:=fun f=>match T_l06Ok f with
 | some k=>some k
 | none=>T_l07All f
theorem T_mHp80_ok:TabOk Try.prog T_mHp80:=tabM T_l06Ok_ok T_l07All_ok
attribute [go_sem] T_mHp80 T0
def K_l11Node:Con:=⟨[.ptr (.prod (.int .i64) (.prod (.int .i64) (.prod (.int .i64) (.prod (.int .i64) (.prod (.row 2 (.int .i64)) (.int .i64))))))],[⟨(.prod (.int .i64) (.prod (.int .i64) (.prod (.int .i64) (.row 2 (.int .i64))))),false⟩],fun _=>True,fun x=>nodeX x.1⟩
theorem l11Node_ok:PureT Try.prog 46 K_l11Node:=by
  refine pure_of_body Try.func46 rfl ?_
  have hres:Try.f46.results.toList=[.cell 2 65]:=rfl
  rintro⟨⟨(kd:Int),(a:Int),(bb:Int),(nd:Int),(fr:List Int),(tt:Int)⟩,_⟩ hc hL
  simp only[K_l11Node,go_sem] at hL
  simp only[K_l11Node,St.init,St.initG,Try.ntmps46,go_sem] 
  refine oS fun _ hK1=>?_
  refine oW T_mHp80_ok ?_
  simp only[go_sem]
  refine hK1 _ ?_
  refine oS fun _ hK2=>?_
  refine oR T_mHp80_ok
    [[],[0],[0,1],[0,1,2],[],[4],[4,5],[4,5,6],[],[8],[8,9],[8,9,10],[],[12],[12,13],[12,13,14],[0,1,2,3,4,5,6,7,8,9,10,11,12,13,14,15],[0,1,2,3,4,5,6,7,8,9,10,11,12,13,14,15,16]]
    [[],[],[],[],[],[],[],[],[],[],[],[],[],[],[],[],[],[]]
    [[],[],[],[],[],[],[],[],[],[],[],[],[],[],[],[],[],[]] (by kernel_rfl) (by kernel_rfl) (adrawR_ok (acc:=[]) ?_)
  simp (maxSteps:=2000000)only[go_sem]
  repeat(with_reducible refine oD ?_)
  refine hK2 _ ?_
  refine AWP_ret ?_
  simp only[hres,go_sem]
  first|exact oF|exact oFr
def T_l11Node:Tab:=fun f=>if f=46 then some (.p K_l11Node) else T_mHp80 f
theorem T_l11Node_ok:TabOk Try.prog T_l11Node:=tabP l11Node_ok (fnOk_of Try.func46 rfl (by decide)) T_mHp80_ok
attribute [go_sem] T_l11Node K_l11Node
def K_l11Wrt:Con:=⟨[.ptr (.prod (.int .i64) (.prod (.int .i64) (.prod (.row 24 (.row 2 (.int .i64))) (.prod (.row 49 (.prod (.int .i64) (.prod (.int .i64) (.prod (.int .i64) (.prod (.int .i64) (.prod (.row 2 (.int .i64)) (.int .i64))))))) (.row 2 (.int .i64))))))],[⟨.bool,true⟩],fun x=>x.1.2.2.2.1.length≤48,fun x=>wrtB x.1.2.2.2.1 x.1.2.2.2.2⟩
theorem l11Wrt_ok:PureT Try.prog 44 K_l11Wrt:=by
  refine pure_of_body Try.func44 rfl ?_
  have hres:Try.f44.results.toList=[.tmp 2]:=rfl
  rintro⟨⟨(gi:Int),(gr:Int),(ts:List (List Int)),(xs:List InstrD),(os:List Int)⟩,_⟩ hc hL
  simp only[K_l11Wrt,go_sem] at hL
  simp only[K_l11Wrt,St.init,St.initG,Try.ntmps44,go_sem] 
  have hxl:xs.length≤48:=hc
  have hx0:x0=((0,0,0,0,[],0):InstrD):=rfl
  refine oS fun _ hK1=>?_
  refine oW T_l11Node_ok ?_
  simp only[go_sem]
  refine hK1 _ ?_
  refine oS fun _ hK2=>?_
  refine oW T_l11Node_ok ?_
  simp only[List.nodup_cons,List.nodup_nil,List.not_mem_nil,not_false_eq_true,go_sem]
  repeat(with_reducible refine oA ?_)
  refine hK2 _ ?_
  refine oS fun _ hK3=>?_
  refine oS fun _ hK4=>?_
  refine oW T_l11Node_ok ?_
  simp only[go_sem]
  refine hK4 _ ?_
  refine AWP_block ?_
  refine AWP_loop_k (ι:={ p:Nat × List Int // WrtI xs p∧p.2.length≤p.1 }) (fun k=>⟨[.c (.pt [] ((.prod (.int .i64) (.prod (.int .i64) (.prod (.row 24 (.row 2 (.int .i64))) (.prod (.row 49 (.prod (.int .i64) (.prod (.int .i64) (.prod (.int .i64) (.prod (.int .i64) (.prod (.row 2 (.int .i64)) (.int .i64))))))) (.row 2 (.int .i64))))))) (gi,gr,ts,xs,os) 0),zz,zz,.c (.ow 9001),.c (.sc (.int .i64 (k.1.1))),zz,zz,zz,zz,zz,zz,zz,zz,zz,zz,zz,zz,zz,zz,zz,zz,zz,zz,zz,zz,zz,zz,zz,zz,zz,zz,zz,zz,zz,zz,zz,zz,zz,zz,zz,zz,zz,zz,zz,zz,zz,zz,zz,zz,zz,zz,zz],[(9001,.row 2 (.int .i64) (k.1.2) [])]⟩) (fun k=>xs.length - k.1.1) ⟨(0,[]),WrtI.start _,by simp⟩ ?_ ?_
  ·
   refine oK ?_
   simp (maxSteps:=2000000)only[go_sem]
   all_goals((repeat' refine And.intro ?_ ?_)<;>first|rfl|(congr 1;done)|(simp;done))
  rintro⟨⟨k,s⟩,hp,hsl⟩ K5 hL5
  have hkl:k≤xs.length:=hp.1
  simp only at hsl
  have hs8:(s.length+1) * 8≤140737488355328:=by omega
  refine oS fun _ hK6=>?_
  refine oS fun _ hK7=>?_
  refine oW T_l11Node_ok ?_
  simp (maxSteps:=2000000)only[go_sem]
  repeat(with_reducible refine oA ?_)
  refine hK7 _ ?_
  refine oC rfl ?_ ?_
  ·
   intro c0
   refine AWP_skip ?_
   simp only[go_sem]
   refine hK6 _ ?_
   refine oS fun _ hK8=>?_
   refine AWP_block ?_
   refine oS fun _ hK9=>?_
   refine oS fun _ hK10=>?_
   refine oW T_l11Node_ok ?_
   simp (maxSteps:=2000000)only[go_sem]
   repeat(with_reducible refine oA ?_)
   refine hK10 _ ?_
   refine oC rfl ?_ ?_
   ·
    intro c1
    have hall:((xs.getD k ((0,0,0,0,[],0):InstrD)).2.2.2.2.1).all (fun f=>List.contains s f)=false:=by first|assumption|(clear hK1 hK2 hK3 hK4 hL5 hK6 hK7 hK8 hK9 hK10;simp_all;done)
    refine oS fun _ hK11=>?_
    refine oW T_l11Node_ok ?_
    simp only[go_sem]
    refine hK11 _ ?_
    refine AWP_ret ?_
    simp only[hres,go_sem]
    first|exact oF|(refine⟨?_,oF⟩;exact(hp.no (by omega) hall).symm)
   intro c1
   have hall:((xs.getD k ((0,0,0,0,[],0):InstrD)).2.2.2.2.1).all (fun f=>List.contains s f)=true:=by first|assumption|(clear hK1 hK2 hK3 hK4 hL5 hK6 hK7 hK8 hK9 hK10;simp_all;done)
   refine AWP_skip ?_
   simp only[go_sem]
   refine hK9 _ ?_
   refine oS fun _ hK12=>?_
   refine oW T_l11Node_ok ?_
   simp (maxSteps:=2000000)only[go_sem]
   repeat(with_reducible refine oA ?_)
   refine hK12 _ ?_
   refine oC rfl ?_ ?_
   ·
    intro c2
    have h18:¬(xs.getD k ((0,0,0,0,[],0):InstrD)).1=18:=by first|assumption|omega
    refine oW T_l11Node_ok ?_
    simp (maxSteps:=2000000)only[go_sem]
    repeat(with_reducible first|refine oA ?_|refine And.intro (by first|exact hs8|omega) ?_)
    refine hK8 _ ?_
    refine oW T_l11Node_ok ?_
    simp only[go_sem]
    first|(refine hL5 ⟨(k+1,s++[(xs.getD k ((0,0,0,0,[],0):InstrD)).2.2.2.2.2]),hp.node (by omega) hall h18,by simp at hsl ⊢;omega⟩ _ (oK ?_) ?_)|(refine hL5 ⟨(k+1,s),hp.store (by omega) hall h18,by simp at hsl ⊢;omega⟩ _ (oK ?_) ?_)
    ·
     simp (maxSteps:=2000000)only[go_sem]
     all_goals((repeat' refine And.intro ?_ ?_)<;>first|rfl|exact wk (by omega)|(congr 1;done))
    ·
     first|(simp only[];omega)|omega|(simp;omega)
   intro c2
   have h18:(xs.getD k ((0,0,0,0,[],0):InstrD)).1=18:=by first|assumption|omega
   refine AWP_skip ?_
   simp only[go_sem]
   refine hK8 _ ?_
   refine oW T_l11Node_ok ?_
   simp only[go_sem]
   first|(refine hL5 ⟨(k+1,s++[(xs.getD k ((0,0,0,0,[],0):InstrD)).2.2.2.2.2]),hp.node (by omega) hall h18,by simp at hsl ⊢;omega⟩ _ (oK ?_) ?_)|(refine hL5 ⟨(k+1,s),hp.store (by omega) hall h18,by simp at hsl ⊢;omega⟩ _ (oK ?_) ?_)
   ·
    simp (maxSteps:=2000000)only[go_sem]
    all_goals((repeat' refine And.intro ?_ ?_)<;>first|rfl|exact wk (by omega)|(congr 1;done))
   ·
    first|(simp only[];omega)|omega|(simp;omega)
  intro c0
  refine AWP_exit ?_
  simp only[go_sem]
  refine hK3 _ ?_
  refine oS fun _ hK13=>?_
  refine oW T_l11Node_ok ?_
  simp (maxSteps:=2000000)only[go_sem]
  repeat(with_reducible refine oA ?_)
  refine hK13 _ ?_
  refine AWP_ret ?_
  simp only[hres,go_sem]
  first|exact oF|(refine⟨?_,oF⟩;exact(hp.fin (by omega)).symm)
def T_l11Wrt:Tab:=fun f=>if f=44 then some (.p K_l11Wrt) else T_l11Node f
theorem T_l11Wrt_ok:TabOk Try.prog T_l11Wrt:=tabP l11Wrt_ok (fnOk_of Try.func44 rfl (by decide)) T_l11Node_ok
attribute [go_sem] T_l11Wrt K_l11Wrt
def K_l11Pairs:Con:=⟨[.val ((.row 49 (.prod (.int .i64) (.prod (.int .i64) (.prod (.int .i64) (.prod (.int .i64) (.prod (.row 2 (.int .i64)) (.int .i64))))))))],[⟨.bool,true⟩],fun x=>x.1.length≤48,fun x=>pairB x.1⟩
theorem l11Pairs_ok:PureT Try.prog 43 K_l11Pairs:=by
  refine pure_of_body Try.func43 rfl ?_
  have hres:Try.f43.results.toList=[.tmp 2]:=rfl
  rintro⟨(xs:List InstrD),_⟩ hc hL
  simp only[K_l11Pairs,go_sem] at hL
  simp only[K_l11Pairs,St.init,St.initG,Try.ntmps43,go_sem] 
  have hxl:xs.length≤48:=hc
  have hx0:x0=((0,0,0,0,[],0):InstrD):=rfl
  refine oS fun _ hK1=>?_
  refine oW T_l11Wrt_ok ?_
  simp only[go_sem]
  refine hK1 _ ?_
  refine oS fun _ hK2=>?_
  refine oW T_l11Wrt_ok ?_
  simp only[List.nodup_cons,List.nodup_nil,List.not_mem_nil,not_false_eq_true,go_sem]
  repeat(with_reducible refine oA ?_)
  refine hK2 _ ?_
  refine oS fun _ hK3=>?_
  refine oW T_l11Wrt_ok ?_
  simp only[List.nodup_cons,List.nodup_nil,List.not_mem_nil,not_false_eq_true,go_sem]
  repeat(with_reducible refine oA ?_)
  refine hK3 _ ?_
  refine oS fun _ hK4=>?_
  refine oS fun _ hK5=>?_
  refine oW T_l11Wrt_ok ?_
  simp only[go_sem]
  refine hK5 _ ?_
  refine AWP_block ?_
  refine AWP_loop_k (ι:={ p:Nat × List Int × List Int // PairI xs p }) (fun k=>⟨[.c (.rd [] 49 ((.prod (.int .i64) (.prod (.int .i64) (.prod (.int .i64) (.prod (.int .i64) (.prod (.row 2 (.int .i64)) (.int .i64))))))) (xs)),zz,zz,.c (.ow 9001),.c (.ow 9002),.c (.sc (.int .i64 (k.1.1))),zz,zz,zz,zz,zz,zz,zz,zz,zz,zz,zz,zz,zz,zz,zz,zz,zz,zz,zz,zz,zz,zz,zz,zz,zz,zz,zz,zz,zz,zz,zz,zz,zz,zz,zz,zz,zz,zz,zz,zz,zz,zz,zz,zz,zz,zz,zz,zz,zz,zz,zz,zz,zz,zz,zz,zz,zz,zz,zz,zz,zz,zz,zz,zz,zz,zz,zz,zz,zz,zz,zz,zz,zz,zz,zz,zz,zz,zz],[(9001,.row 2 (.int .i64) (k.1.2.1) []),(9002,.row 2 (.int .i64) (k.1.2.2) [])]⟩) (fun k=>xs.length - k.1.1) ⟨(0,[],[]),⟨by simp,rfl,by simp,by simp⟩⟩ ?_ ?_
  ·
   refine oK ?_
   simp (maxSteps:=2000000)only[go_sem]
   all_goals((repeat' refine And.intro ?_ ?_)<;>first|rfl|(congr 1;done)|(simp;done))
  rintro⟨⟨k,s,o⟩,hp⟩ K6 hL6
  obtain⟨hk,_,hsl,hol⟩:=id hp
  simp only at hk hsl hol
  have hs8:(s.length+1) * 8≤140737488355328:=by omega
  have ho8:(o.length+1) * 8≤140737488355328:=by omega
  refine oS fun _ hK7=>?_
  refine oS fun _ hK8=>?_
  refine oW T_l11Wrt_ok ?_
  simp only[go_sem]
  refine hK8 _ ?_
  refine oC rfl ?_ ?_
  ·
   intro c0
   refine AWP_skip ?_
   simp only[go_sem]
   refine hK7 _ ?_
   refine oS fun _ hK9=>?_
   refine AWP_block ?_
   refine oS fun _ hK10=>?_
   refine oW T_l11Wrt_ok ?_
   simp only[go_sem]
   repeat(with_reducible refine oA ?_)
   refine hK10 _ ?_
   refine oS fun _ hK11=>?_
   refine oS fun _ hK12=>?_
   refine oW T_l11Wrt_ok ?_
   simp (maxSteps:=2000000)only[go_sem]
   repeat(with_reducible refine oA ?_)
   refine hK12 _ ?_
   refine oC rfl ?_ ?_
   ·
    intro c1
    have h18:(xs.getD k ((0,0,0,0,[],0):InstrD)).1=18:=by first|assumption|omega
    refine oS fun _ hK13=>?_
    refine oS fun _ hK14=>?_
    refine oW T_l11Wrt_ok ?_
    simp (maxSteps:=2000000)only[go_sem]
    repeat(with_reducible refine oA ?_)
    refine hK14 _ ?_
    refine oC rfl ?_ ?_
    ·
     intro c2
     have hco:o.contains (xs.getD k ((0,0,0,0,[],0):InstrD)).2.2.2.1=false:=by first|assumption|(clear hK1 hK2 hK3 hK4 hK5 hL6 hK7 hK8 hK9 hK10 hK11 hK12 hK13 hK14;simp_all;done)
     refine oS fun _ hK15=>?_
     refine oW T_l11Wrt_ok ?_
     simp only[go_sem]
     refine hK15 _ ?_
     refine AWP_ret ?_
     simp only[hres,go_sem]
     first|exact oF|(refine⟨?_,oF⟩;exact(hp.lone (by omega) h18 hco).symm)
    intro c2
    have hco:o.contains (xs.getD k ((0,0,0,0,[],0):InstrD)).2.2.2.1=true:=by first|assumption|(clear hK1 hK2 hK3 hK4 hK5 hL6 hK7 hK8 hK9 hK10 hK11 hK12 hK13 hK14;simp_all;done)
    refine AWP_skip ?_
    simp only[go_sem]
    refine hK13 _ ?_
    refine oS fun _ hK16=>?_
    refine oW T_l11Wrt_ok ?_
    simp only[List.nodup_cons,List.nodup_nil,List.not_mem_nil,not_false_eq_true,go_sem]
    repeat(with_reducible refine oA ?_)
    refine hK16 _ ?_
    refine oS fun _ hK17=>?_
    refine oS fun _ hK18=>?_
    refine oW T_l11Wrt_ok ?_
    simp only[go_sem]
    refine hK18 _ ?_
    refine AWP_block ?_
    refine AWP_loop_k (ι:={ m:Nat // m≤o.length }) (fun k'=>⟨[.c (.rd [] 49 ((.prod (.int .i64) (.prod (.int .i64) (.prod (.int .i64) (.prod (.int .i64) (.prod (.row 2 (.int .i64)) (.int .i64))))))) (xs)),zz,zz,.c (.ow 9001),.c (.ow 9002),.c (.sc (.int .i64 (k))),.c (.pt [] ((.prod (.int .i64) (.prod (.int .i64) (.prod (.int .i64) (.prod (.int .i64) (.prod (.row 2 (.int .i64)) (.int .i64))))))) (xs.getD k ((0,0,0,0,[],0):InstrD)) 0),.c (.ow 9003),.c (.sc (.int .i64 (k'.1))),zz,zz,zz,zz,zz,zz,zz,zz,zz,zz,zz,zz,zz,zz,zz,zz,zz,zz,zz,zz,zz,zz,zz,zz,zz,zz,zz,zz,zz,zz,zz,zz,zz,zz,zz,zz,zz,zz,zz,zz,zz,zz,zz,zz,zz,zz,zz,zz,zz,zz,zz,zz,zz,zz,zz,zz,zz,zz,zz,zz,zz,zz,zz,zz,zz,zz,zz,zz,zz,zz,zz,zz,zz,zz,zz],[(9001,.row 2 (.int .i64) (s) []),(9002,.row 2 (.int .i64) (o) []),(9003,.row 2 (.int .i64) (((o.take k'.1).filter fun y=>!decide (y=(xs.getD k ((0,0,0,0,[],0):InstrD)).2.2.2.1))) [])]⟩) (fun k'=>o.length - k'.1) ⟨0,by simp⟩ ?_ ?_
    ·
     refine oK ?_
     simp (maxSteps:=2000000)only[go_sem]
     all_goals((repeat' refine And.intro ?_ ?_)<;>first|rfl|(congr 1;done)|(simp;done))
    rintro⟨m,hm⟩ K19 hL19
    have hfl:((o.take m).filter fun y=>!decide (y=(xs.getD k ((0,0,0,0,[],0):InstrD)).2.2.2.1)).length≤48:=Nat.le_trans (List.length_filter_le _ _) (by rw[List.length_take];omega)
    have hf8:(((o.take m).filter fun y=>!decide (y=(xs.getD k ((0,0,0,0,[],0):InstrD)).2.2.2.1)).length+1) * 8≤140737488355328:=by omega
    refine oS fun _ hK20=>?_
    refine oS fun _ hK21=>?_
    refine oW T_l11Wrt_ok ?_
    simp only[go_sem]
    refine hK21 _ ?_
    refine oC rfl ?_ ?_
    ·
     intro c3
     refine AWP_skip ?_
     simp only[go_sem]
     refine hK20 _ ?_
     refine oS fun _ hK22=>?_
     refine AWP_block ?_
     refine oS fun _ hK23=>?_
     refine oR T_l11Wrt_ok
       [[],[],[0,1],[0,1,2],[],[4],[4,5],[4,5,6],[0,1,2,3,4,5,6,7]]
       [[],[],[],[],[],[],[],[],[]]
       [[],[],[],[],[],[],[],[],[]] (by kernel_rfl) (by kernel_rfl) (adrawR_ok (acc:=[]) ?_)
     simp (maxSteps:=2000000)only[go_sem]
     repeat(with_reducible refine oD ?_)
     refine hK23 _ ?_
     refine oC rfl ?_ ?_
     ·
      intro c4
      have hfx:=flt_next (n:=(xs.getD k ((0,0,0,0,[],0):InstrD)).2.2.2.1) (show m < o.length by omega) (by first|assumption|omega)
      refine oW T_l11Wrt_ok ?_
      simp (maxSteps:=2000000)only[List.nodup_cons,List.nodup_nil,List.not_mem_nil,not_false_eq_true,go_sem]
      repeat(with_reducible first|refine oA ?_|refine And.intro (by first|exact hf8|omega) ?_)
      refine hK22 _ ?_
      refine oW T_l11Wrt_ok ?_
      simp only[go_sem]
      first|(refine hL19 ⟨m+1,by omega⟩ _ (oK ?_) ?_)|(refine hL19 ⟨m+1,by omega⟩ _ (oK ?_) ?_)
      ·
       simp (maxSteps:=2000000)only[go_sem]
       all_goals((repeat' refine And.intro ?_ ?_)<;>first|rfl|exact wk (by omega)|(congr 1;done)|(congr 1;exact hfx)|exact hfx)
      ·
       first|(simp only[];omega)|omega|(simp;omega)
     intro c4
     have hfx:=(flt_skip (n:=(xs.getD k ((0,0,0,0,[],0):InstrD)).2.2.2.1) (show m < o.length by omega) (by first|assumption|omega)).symm
     refine AWP_skip ?_
     simp only[go_sem]
     refine hK22 _ ?_
     refine oW T_l11Wrt_ok ?_
     simp only[go_sem]
     first|(refine hL19 ⟨m+1,by omega⟩ _ (oK ?_) ?_)|(refine hL19 ⟨m+1,by omega⟩ _ (oK ?_) ?_)
     ·
      simp (maxSteps:=2000000)only[go_sem]
      all_goals((repeat' refine And.intro ?_ ?_)<;>first|rfl|exact wk (by omega)|(congr 1;done)|(congr 1;exact hfx)|exact hfx)
     ·
      first|(simp only[];omega)|omega|(simp;omega)
    intro c3
    have hfo:((o.take m).filter fun y=>!decide (y=(xs.getD k ((0,0,0,0,[],0):InstrD)).2.2.2.1))=o.filter fun y=>!decide (y=(xs.getD k ((0,0,0,0,[],0):InstrD)).2.2.2.1):=by rw[List.take_of_length_le (by omega)]
    refine AWP_exit ?_
    simp only[go_sem]
    refine hK17 _ ?_
    refine oS fun _ hK24=>?_
    refine oW T_l11Wrt_ok ?_
    simp only[go_sem]
    refine hK24 _ ?_
    refine AWP_exit ?_
    simp only[go_sem]
    refine hK9 _ ?_
    refine oW T_l11Wrt_ok ?_
    simp only[go_sem]
    first|(refine hL6 ⟨(k+1,s,o.filter fun y=>!decide (y=(xs.getD k ((0,0,0,0,[],0):InstrD)).2.2.2.1)),hp.store (by omega) h18 hco⟩ _ (oK ?_) ?_)|(refine hL6 ⟨(k+1,s++[(xs.getD k ((0,0,0,0,[],0):InstrD)).2.2.2.1],o++[(xs.getD k ((0,0,0,0,[],0):InstrD)).2.2.2.1]),hp.delay (by omega) h18 hcs h6⟩ _ (oK ?_) ?_)|(refine hL6 ⟨(k+1,s++[(xs.getD k ((0,0,0,0,[],0):InstrD)).2.2.2.1],o),hp.node (by omega) h18 hcs h6⟩ _ (oK ?_) ?_)
    ·
     simp (maxSteps:=2000000)only[go_sem]
     all_goals((repeat' refine And.intro ?_ ?_)<;>first|rfl|exact wk (by omega)|(congr 1;done)|(rw[hfo];done)|(congr 1;exact hfo)|exact hfo)
    ·
     first|(simp only[];omega)|omega|(simp;omega)
   intro c1
   have h18:¬(xs.getD k ((0,0,0,0,[],0):InstrD)).1=18:=by first|assumption|omega
   refine AWP_skip ?_
   simp only[go_sem]
   refine hK11 _ ?_
   refine oS fun _ hK25=>?_
   refine oS fun _ hK26=>?_
   refine oW T_l11Wrt_ok ?_
   simp (maxSteps:=2000000)only[go_sem]
   repeat(with_reducible refine oA ?_)
   refine hK26 _ ?_
   refine oC rfl ?_ ?_
   ·
    intro c5
    have hcs:s.contains (xs.getD k ((0,0,0,0,[],0):InstrD)).2.2.2.1=true:=by first|assumption|(clear hK1 hK2 hK3 hK4 hK5 hL6 hK7 hK8 hK9 hK10 hK11 hK12 hK25 hK26;simp_all;done)
    refine oS fun _ hK27=>?_
    refine oW T_l11Wrt_ok ?_
    simp only[go_sem]
    refine hK27 _ ?_
    refine AWP_ret ?_
    simp only[hres,go_sem]
    first|exact oF|(refine⟨?_,oF⟩;exact(hp.twice (by omega) h18 hcs).symm)
   intro c5
   have hcs:s.contains (xs.getD k ((0,0,0,0,[],0):InstrD)).2.2.2.1=false:=by first|assumption|(clear hK1 hK2 hK3 hK4 hK5 hL6 hK7 hK8 hK9 hK10 hK11 hK12 hK25 hK26;simp_all;done)
   refine AWP_skip ?_
   simp only[go_sem]
   refine hK25 _ ?_
   refine oS fun _ hK28=>?_
   refine oW T_l11Wrt_ok ?_
   simp (maxSteps:=2000000)only[List.nodup_cons,List.nodup_nil,List.not_mem_nil,not_false_eq_true,go_sem]
   repeat(with_reducible first|refine oA ?_|refine And.intro (by first|exact hs8|omega) ?_)
   refine hK28 _ ?_
   refine oS fun _ hK29=>?_
   refine oW T_l11Wrt_ok ?_
   simp (maxSteps:=2000000)only[go_sem]
   repeat(with_reducible refine oA ?_)
   refine hK29 _ ?_
   refine oC rfl ?_ ?_
   ·
    intro c6
    have h6:(xs.getD k ((0,0,0,0,[],0):InstrD)).1=6:=by first|assumption|omega
    refine oW T_l11Wrt_ok ?_
    simp (maxSteps:=2000000)only[List.nodup_cons,List.nodup_nil,List.not_mem_nil,not_false_eq_true,go_sem]
    repeat(with_reducible first|refine oA ?_|refine And.intro (by first|exact ho8|omega) ?_)
    refine hK9 _ ?_
    refine oW T_l11Wrt_ok ?_
    simp only[go_sem]
    first|(refine hL6 ⟨(k+1,s,o.filter fun y=>!decide (y=(xs.getD k ((0,0,0,0,[],0):InstrD)).2.2.2.1)),hp.store (by omega) h18 hco⟩ _ (oK ?_) ?_)|(refine hL6 ⟨(k+1,s++[(xs.getD k ((0,0,0,0,[],0):InstrD)).2.2.2.1],o++[(xs.getD k ((0,0,0,0,[],0):InstrD)).2.2.2.1]),hp.delay (by omega) h18 hcs h6⟩ _ (oK ?_) ?_)|(refine hL6 ⟨(k+1,s++[(xs.getD k ((0,0,0,0,[],0):InstrD)).2.2.2.1],o),hp.node (by omega) h18 hcs h6⟩ _ (oK ?_) ?_)
    ·
     simp (maxSteps:=2000000)only[go_sem]
     all_goals((repeat' refine And.intro ?_ ?_)<;>first|rfl|exact wk (by omega)|(congr 1;done)|(rw[hfo];done)|(congr 1;exact hfo)|exact hfo)
    ·
     first|(simp only[];omega)|omega|(simp;omega)
   intro c6
   have h6:¬(xs.getD k ((0,0,0,0,[],0):InstrD)).1=6:=by first|assumption|omega
   refine AWP_skip ?_
   simp only[go_sem]
   refine hK9 _ ?_
   refine oW T_l11Wrt_ok ?_
   simp only[go_sem]
   first|(refine hL6 ⟨(k+1,s,o.filter fun y=>!decide (y=(xs.getD k ((0,0,0,0,[],0):InstrD)).2.2.2.1)),hp.store (by omega) h18 hco⟩ _ (oK ?_) ?_)|(refine hL6 ⟨(k+1,s++[(xs.getD k ((0,0,0,0,[],0):InstrD)).2.2.2.1],o++[(xs.getD k ((0,0,0,0,[],0):InstrD)).2.2.2.1]),hp.delay (by omega) h18 hcs h6⟩ _ (oK ?_) ?_)|(refine hL6 ⟨(k+1,s++[(xs.getD k ((0,0,0,0,[],0):InstrD)).2.2.2.1],o),hp.node (by omega) h18 hcs h6⟩ _ (oK ?_) ?_)
   ·
    simp (maxSteps:=2000000)only[go_sem]
    all_goals((repeat' refine And.intro ?_ ?_)<;>first|rfl|exact wk (by omega)|(congr 1;done)|(rw[hfo];done)|(congr 1;exact hfo)|exact hfo)
   ·
    first|(simp only[];omega)|omega|(simp;omega)
  intro c0
  refine AWP_exit ?_
  simp only[go_sem]
  refine hK4 _ ?_
  refine oS fun _ hK30=>?_
  refine oW T_l11Wrt_ok ?_
  simp only[go_sem]
  refine hK30 _ ?_
  refine AWP_ret ?_
  simp only[hres,go_sem]
  first|exact oF|(refine⟨?_,oF⟩;rw[hp.fin (by omega)];first|rfl|exact decide_eq_decide.2 (by omega))
def T_l11Pairs:Tab:=fun f=>if f=43 then some (.p K_l11Pairs) else T_l11Wrt f
theorem T_l11Pairs_ok:TabOk Try.prog T_l11Pairs:=tabP l11Pairs_ok (fnOk_of Try.func43 rfl (by decide)) T_l11Wrt_ok
attribute [go_sem] T_l11Pairs K_l11Pairs
end Go.Proofs.Ytenjbehedcegdaa
