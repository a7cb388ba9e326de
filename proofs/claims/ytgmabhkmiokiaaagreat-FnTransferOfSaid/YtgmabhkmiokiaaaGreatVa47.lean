/-
  Texts of this claim, joined (part 47). No condition beyond those of the theorems.
-/
import Derived.Test.YtgmabhkmiokiaaaGreatVa08
import Derived.Test.YtgmabhkmiokiaaaGreatVa44
import Derived.Test.YtgmabhkmiokiaaaGreatVa46
import Derived.Test.YtgmabhkmiokiaaaGreatVa28
namespace Go.Proofs.YtgmabhkmiokiaaaGreat
open Go.RowKit
set_option linter.unusedSimpArgs false
set_option linter.unusedVariables false
set_option maxRecDepth 100000
set_option maxHeartbeats 8000000
def T_mHr80:Tab:=fun f=>match T_l06Look f with
 | some k=>some k
 | none=>T_l07Own f
theorem T_mHr80_ok:TabOk Tryz.prog T_mHr80:=tabM T_l06Look_ok T_l07Own_ok
attribute [go_sem] T_mHr80 T0
def K_l06Next:Con:=⟨[.ptr (.prod (.int .i64) (.prod (.int .i64) (.prod (.int .i64) (.row 2 (.int .i64))))),.val ((.row 2 (.int .i64))),.val ((.row 2 (.int .i64))),.val (.int .i64)],[⟨(.row 2 (.int .i64)),true⟩],fun x=>∃ tabs,stepC x.1 tabs x.2.1 x.2.2.1,fun x=>nextV x.1.1 x.2.1 x.2.2.1 x.2.2.2.1⟩
theorem l06Next_ok:PureT Tryz.prog 137 K_l06Next:=by
  refine pure_of_body Tryz.func137 rfl ?_
  have hres:Tryz.f137.results.toList=[.tmp 8]:=rfl
  rintro ⟨⟨(kd:Int),(a:Int),(bb:Int),(fr:List Int)⟩,(ii:List Int),(ss:List Int),(oo:Int),_⟩ hc hL
  simp only[K_l06Next,go_sem] at hL
  simp only[K_l06Next,St.init,St.initG,Tryz.ntmps137,go_sem] 
  obtain ⟨tb,hS⟩ :∃tb,stepC (kd,a,bb,fr) tb ii ss:=hc
  obtain ⟨h1,h2,h3,h4,h5,h6,h7,h8,h9,h10,h11,h12,h13⟩:=stepC_parts hS
  have hi0:=stepC_smp hS 0
  have hi1:=stepC_smp hS 1
  refine oS fun _ hK1=>?_;refine oW T_mHr80_ok ?_;simp only[go_sem];refine hK1 _ ?_;refine oS fun _ hK2=>?_;refine oS fun _ hK3=>?_;refine oW T_mHr80_ok ?_;simp only[go_sem];repeat (with_reducible refine oA ?_)
  refine hK3 _ ?_;refine AWP_block ?_;refine oS fun _ hK4=>?_;refine oW T_mHr80_ok ?_;simp only[go_sem];refine hK4 _ ?_;refine oC rfl ?_ ?_
  ·
   intro c0;refine oS fun _ hK5=>?_
   refine oR T_mHr80_ok
     [[],[0],[0,1],[],[3],[3,4],[3,4,5],[0,1,2,3,4,5,6],[0,1,2,3,4,5,6,7]]
     [[436],[436],[436],[372,373,374,375,376,377,378,379,380,381,382,383,384,385,386,387],[372,373,374,375,376,377,378,379,380,381,382,383,384,385,386,387],[372,373,374,375,376,377,378,379,380,381,382,383,384,385,386,387],[372,373,374,375,376,377,378,379,380,381,382,383,384,385,386,387],[],[]]
     [[],[],[372,373,374,375,376,377,378,379,380,381,382,383,384,385,386,387],[],[],[],[436],[],[]] (by kernel_rfl) (by kernel_rfl) (adrawR_ok (acc:=[]) ?_)
   simp (maxSteps:=2000000)only[List.nodup_nil,List.take_length,List.length_drop,go_sem];repeat (with_reducible refine oD ?_)
   refine hK5 _ ?_;refine AWP_ret ?_;simp only[hres,go_sem];first | exact oF | (refine ⟨?_,oF⟩; first | (have e:kd=6:=(by assumption); subst e; rfl) | (exfalso; omega) | exact (nextV_none (by omega) (by omega) (by omega) (by omega) (by omega) (by omega) (by omega)).symm)
  intro c0;refine oS fun _ hK6=>?_;refine oW T_mHr80_ok ?_;simp only[List.nodup_nil,List.take_length,List.length_drop,go_sem];refine hK6 _ ?_;refine oC rfl ?_ ?_
  ·
   intro c1;refine oS fun _ hK7=>?_;refine oW T_mHr80_ok ?_;simp (maxSteps:=2000000)only[List.nodup_nil,List.take_length,List.length_drop,go_sem];repeat (with_reducible refine oA ?_)
   refine hK7 _ ?_;refine AWP_ret ?_;simp only[hres,go_sem];first | exact oF | (refine ⟨?_,oF⟩; first | (have e:kd=17:=(by assumption); subst e; rfl) | (exfalso; omega) | exact (nextV_none (by omega) (by omega) (by omega) (by omega) (by omega) (by omega) (by omega)).symm)
  intro c1;refine oS fun _ hK8=>?_;refine oS fun _ hK9=>?_;refine oW T_mHr80_ok ?_;simp only[List.nodup_nil,List.take_length,List.length_drop,go_sem];refine hK9 _ ?_;refine oC rfl ?_ ?_
  ·
   intro c2;refine AWP_skip ?_;simp only[go_sem];refine hK8 _ ?_;refine oC rfl ?_ ?_
   ·
    intro c3;refine oS fun _ hK10=>?_;refine oW T_mHr80_ok ?_;simp only[List.nodup_nil,List.take_length,List.length_drop,go_sem];repeat (with_reducible refine oA ?_)
    refine hK10 _ ?_;refine AWP_ret ?_;simp only[hres,go_sem];first | exact oF | (refine ⟨?_,oF⟩; first | (have e:kd=7:=(by assumption); subst e; rfl) | (exfalso; omega) | exact (nextV_none (by omega) (by omega) (by omega) (by omega) (by omega) (by omega) (by omega)).symm)
   intro c3;refine oS fun _ hK11=>?_;refine oW T_mHr80_ok ?_;simp only[List.nodup_nil,List.take_length,List.length_drop,go_sem];refine hK11 _ ?_;refine oC rfl ?_ ?_
   ·
    intro c4;refine oS fun _ hK12=>?_;refine oW T_mHr80_ok ?_;simp (maxSteps:=2000000)only[List.nodup_nil,List.take_length,List.length_drop,go_sem];repeat (with_reducible refine oA ?_)
    refine hK12 _ ?_;refine AWP_ret ?_;simp only[hres,go_sem];first | exact oF | (refine ⟨?_,oF⟩; first | (have e:kd=8:=(by assumption); subst e; rfl) | (exfalso; omega) | exact (nextV_none (by omega) (by omega) (by omega) (by omega) (by omega) (by omega) (by omega)).symm)
   intro c4;refine oS fun _ hK13=>?_;refine oW T_mHr80_ok ?_;simp only[List.nodup_nil,List.take_length,List.length_drop,go_sem];refine hK13 _ ?_;refine oC rfl ?_ ?_
   ·
    intro c5;refine oS fun _ hK14=>?_
    refine oR T_mHr80_ok
      [[],[0],[0,1],[],[3],[3,4],[0,1,2,3,4,5],[0,1,2,3,4,5,6],[0,1,2,3,4,5,6,7]]
      [[],[],[],[],[],[],[],[],[]]
      [[],[],[],[],[],[],[],[],[]] (by kernel_rfl) (by kernel_rfl) (adrawR_ok (acc:=[]) ?_)
    simp (maxSteps:=2000000)only[List.nodup_nil,List.take_length,List.length_drop,go_sem];repeat (with_reducible refine oD ?_)
    refine hK14 _ ?_;refine AWP_ret ?_;simp only[hres,go_sem];first | exact oF | (refine ⟨?_,oF⟩; first | (have e:kd=12:=(by assumption); subst e; rfl) | (exfalso; omega) | exact (nextV_none (by omega) (by omega) (by omega) (by omega) (by omega) (by omega) (by omega)).symm)
   intro c5;refine oS fun _ hK15=>?_;refine oW T_mHr80_ok ?_;simp only[List.nodup_nil,List.take_length,List.length_drop,go_sem];refine hK15 _ ?_;refine oC rfl ?_ ?_
   ·
    intro c6;refine oS fun _ hK16=>?_;refine oW T_mHr80_ok ?_;simp (maxSteps:=2000000)only[List.nodup_nil,List.take_length,List.length_drop,go_sem];repeat (with_reducible refine oA ?_)
    refine hK16 _ ?_;refine AWP_ret ?_;simp only[hres,go_sem];first | exact oF | (refine ⟨?_,oF⟩; first | (have e:kd=14:=(by assumption); subst e; rfl) | (exfalso; omega) | exact (nextV_none (by omega) (by omega) (by omega) (by omega) (by omega) (by omega) (by omega)).symm)
   intro c6;refine AWP_skip ?_;simp only[go_sem];refine hK2 _ ?_;refine oS fun _ hK17=>?_;refine oW T_mHr80_ok ?_;simp only[List.nodup_nil,List.take_length,List.length_drop,go_sem];repeat (with_reducible refine oA ?_)
   refine hK17 _ ?_;refine AWP_ret ?_;simp only[hres,go_sem];first | exact oF | (refine ⟨?_,oF⟩; first | (have e:kd=7:=(by assumption); subst e; rfl) | (exfalso; omega) | exact (nextV_none (by omega) (by omega) (by omega) (by omega) (by omega) (by omega) (by omega)).symm)
  intro c2;refine oW T_mHr80_ok ?_;simp only[List.nodup_nil,List.take_length,List.length_drop,go_sem];refine hK8 _ ?_;refine oC rfl ?_ ?_
  ·
   intro c3;refine oS fun _ hK18=>?_;refine oW T_mHr80_ok ?_;simp only[List.nodup_nil,List.take_length,List.length_drop,go_sem];repeat (with_reducible refine oA ?_)
   refine hK18 _ ?_;refine AWP_ret ?_;simp only[hres,go_sem];first | exact oF | (refine ⟨?_,oF⟩; first | (have e:kd=16:=(by assumption); subst e; rfl) | (exfalso; omega) | exact (nextV_none (by omega) (by omega) (by omega) (by omega) (by omega) (by omega) (by omega)).symm)
  intro c3;refine oS fun _ hK19=>?_;refine oW T_mHr80_ok ?_;simp only[List.nodup_nil,List.take_length,List.length_drop,go_sem];refine hK19 _ ?_;refine oC rfl ?_ ?_
  ·
   intro c4;refine oS fun _ hK20=>?_;refine oW T_mHr80_ok ?_;simp (maxSteps:=2000000)only[List.nodup_nil,List.take_length,List.length_drop,go_sem];repeat (with_reducible refine oA ?_)
   refine hK20 _ ?_;refine AWP_ret ?_;simp only[hres,go_sem];first | exact oF | (refine ⟨?_,oF⟩; first | (have e:kd=8:=(by assumption); subst e; rfl) | (exfalso; omega) | exact (nextV_none (by omega) (by omega) (by omega) (by omega) (by omega) (by omega) (by omega)).symm)
  intro c4;refine oS fun _ hK21=>?_;refine oW T_mHr80_ok ?_;simp only[List.nodup_nil,List.take_length,List.length_drop,go_sem];refine hK21 _ ?_;refine oC rfl ?_ ?_
  ·
   intro c5;refine oS fun _ hK22=>?_
   refine oR T_mHr80_ok
     [[],[0],[0,1],[],[3],[3,4],[0,1,2,3,4,5],[0,1,2,3,4,5,6],[0,1,2,3,4,5,6,7]]
     [[],[],[],[],[],[],[],[],[]]
     [[],[],[],[],[],[],[],[],[]] (by kernel_rfl) (by kernel_rfl) (adrawR_ok (acc:=[]) ?_)
   simp (maxSteps:=2000000)only[List.nodup_nil,List.take_length,List.length_drop,go_sem];repeat (with_reducible refine oD ?_)
   refine hK22 _ ?_;refine AWP_ret ?_;simp only[hres,go_sem];first | exact oF | (refine ⟨?_,oF⟩; first | (have e:kd=12:=(by assumption); subst e; rfl) | (exfalso; omega) | exact (nextV_none (by omega) (by omega) (by omega) (by omega) (by omega) (by omega) (by omega)).symm)
  intro c5;refine oS fun _ hK23=>?_;refine oW T_mHr80_ok ?_;simp only[List.nodup_nil,List.take_length,List.length_drop,go_sem];refine hK23 _ ?_;refine oC rfl ?_ ?_
  ·
   intro c6;refine oS fun _ hK24=>?_;refine oW T_mHr80_ok ?_;simp (maxSteps:=2000000)only[List.nodup_nil,List.take_length,List.length_drop,go_sem];repeat (with_reducible refine oA ?_)
   refine hK24 _ ?_;refine AWP_ret ?_;simp only[hres,go_sem];first | exact oF | (refine ⟨?_,oF⟩; first | (have e:kd=14:=(by assumption); subst e; rfl) | (exfalso; omega) | exact (nextV_none (by omega) (by omega) (by omega) (by omega) (by omega) (by omega) (by omega)).symm)
  intro c6;refine AWP_skip ?_;simp only[go_sem];refine hK2 _ ?_;refine oS fun _ hK25=>?_;refine oW T_mHr80_ok ?_;simp only[List.nodup_nil,List.take_length,List.length_drop,go_sem];repeat (with_reducible refine oA ?_)
  refine hK25 _ ?_;refine AWP_ret ?_;simp only[hres,go_sem];first | exact oF | (refine ⟨?_,oF⟩; first | (have e:kd=0:=(by assumption); subst e; rfl) | (exfalso; omega) | exact (nextV_none (by omega) (by omega) (by omega) (by omega) (by omega) (by omega) (by omega)).symm)
def T_l06Next:Tab:=fun f=>if f=137 then some (.p K_l06Next) else T_mHr80 f
theorem T_l06Next_ok:TabOk Tryz.prog T_l06Next:=tabP l06Next_ok (fnOk_of Tryz.func137 rfl (by decide)) T_mHr80_ok
attribute [go_sem] T_l06Next K_l06Next
set_option maxRecDepth 100000
set_option maxHeartbeats 4000000
def T_mHt50:Tab:=fun f=>match T_l06Out f with
 | some k=>some k
 | none=>T_l06Next f
theorem T_mHt50_ok:TabOk Tryz.prog T_mHt50:=tabM T_l06Out_ok T_l06Next_ok
attribute [go_sem] T_mHt50 T0
def T_mHt51:Tab:=fun f=>match T_mHt50 f with
 | some k=>some k
 | none=>T_outputs f
theorem T_mHt51_ok:TabOk Tryz.prog T_mHt51:=tabM T_mHt50_ok T_outputs_ok
attribute [go_sem] T_mHt51 T0
def K_l08Values:Con:=⟨[.ptr (.prod (.int .i64) (.prod (.row 26 (.row 2 (.int .i64))) (.prod (.row 93 (.prod (.int .i64) (.prod (.int .i64) (.prod (.int .i64) (.row 2 (.int .i64)))))) (.row 2 (.int .i64))))),.val ((.row 2 (.int .i64))),.ptr (.row 26 (.row 2 (.int .i64))),.val ((.row 2 (.int .i64)))],[⟨(.row 2 (.int .i64)),true⟩],fun x=>patchB x.1=true∧x.2.1=ordL x.1.2.2.1∧StOk x.1 x.2.2.1∧(x.2.2.2.1.length:Int)=x.1.1∧smps x.2.2.2.1=true,fun x=>valsL x.1 x.2.2.1 x.2.2.2.1⟩
theorem l08Values_ok:PureT Tryz.prog 105 K_l08Values:=by
  refine pure_of_body Tryz.func105 rfl ?_
  have hres:Tryz.f105.results.toList=[.tmp 8]:=rfl
  rintro ⟨⟨(pi:Int),(ts:List (List Int)),(ns:List NodeD),(os:List Int)⟩,(oo:List Int),(cc:List (List Int)),(ff:List Int),_⟩ hc hL
  simp only[K_l08Values,go_sem] at hL
  simp only[K_l08Values,St.init,St.initG,Tryz.ntmps105,go_sem] 
  obtain ⟨hP,hoo,hcc,hfl,hff⟩:=(show patchB (pi,ts,ns,os)=true∧oo=ordL (pi,ts,ns,os).2.2.1∧StOk (pi,ts,ns,os) cc∧(ff.length:Int)=(pi,ts,ns,os).1∧smps ff=true from hc)
  have hoo:oo=ordL ns:=hoo
  subst hoo;obtain ⟨hF,hol⟩:=patchB_parts hP
  have hol:(ordL ns).length=ns.length:=hol
  have hn24:ns.length≤24:=(formedB_parts hF).1
  refine oS fun _ hK1=>?_;refine oW T_mHt51_ok ?_;simp only[go_sem];refine hK1 _ ?_;refine oS fun _ hK2=>?_;refine oW T_mHt51_ok ?_;simp (maxSteps:=2000000)only[List.nodup_nil,go_sem];repeat (with_reducible refine oA ?_)
  refine hK2 _ ?_;refine oS fun _ hK3=>?_;refine oS fun _ hK4=>?_;refine oW T_mHt51_ok ?_;simp only[go_sem];refine hK4 _ ?_;refine AWP_block ?_;refine AWP_loop_k (ι:={ k:Nat // k≤(ordL ns).length }) (fun k=>⟨[.c (.pt [] ((.prod (.int .i64) (.prod (.row 26 (.row 2 (.int .i64))) (.prod (.row 93 (.prod (.int .i64) (.prod (.int .i64) (.prod (.int .i64) (.row 2 (.int .i64)))))) (.row 2 (.int .i64)))))) (pi,ts,ns,os) 0),.c (.rd [] 2 (.int .i64) (ordL ns)),.c (.pt [] ((.row 26 (.row 2 (.int .i64)))) cc 0),.c (.rd [] 2 (.int .i64) (ff)),zz,zz,zz,zz,zz,.c (.ow 9001),.c (.sc (.int .i64 (k.1))),zz,zz,zz,zz,zz,zz,zz,zz,zz,zz,zz,zz,zz,zz,zz,zz,zz,zz,zz,zz,zz,zz,zz,zz,zz,zz,zz,zz,zz,zz,zz,zz,zz,zz,zz,zz,zz,zz,zz,zz,zz,zz,zz,zz,zz],[(9001,.row 2 (.int .i64) ((valsG (pi,ts,ns,os) cc ff (List.replicate ns.length 0) ((ordL ns).take k.1))) [])]⟩) (fun k=>(ordL ns).length - k.1) ⟨0,by simp⟩ ?_ ?_
  ·
   refine oK ?_;simp (maxSteps:=2000000)only[go_sem];all_goals (first | rfl | ((repeat' refine And.intro ?_ ?_)<;>first | rfl | simp))
  rintro ⟨k,hk⟩ K5 hL5
  have hkv:=valsL_ok (p:=(pi,ts,ns,os)) (s:=cc) (fr:=ff) hF hcc hff (vals0_ok (pi,ts,ns,os)) k hk
  have hvl:(valsG (pi,ts,ns,os) cc ff (List.replicate ns.length 0) ((ordL ns).take k)).length=ns.length:=hkv.1
  have hsl:cc.length=ns.length:=hcc.1
  have hgd:k < (ordL ns).length→∃ i0:Nat,(ordL ns).getD k 0=(i0:Int)∧i0 < ns.length:=fun h=>by obtain ⟨q,h1,h2,_⟩:=ordL_good ns k h; exact ⟨q,h1,h2⟩
  have hnx:k < (ordL ns).length→valsG (pi,ts,ns,os) cc ff (List.replicate ns.length 0) ((ordL ns).take (k+1))=valStep (pi,ts,ns,os) cc ff (valsG (pi,ts,ns,os) cc ff (List.replicate ns.length 0) ((ordL ns).take k)) ((ordL ns).getD k 0):=fun h=>valsG_next h
  refine oS fun _ hK6=>?_;refine oS fun _ hK7=>?_;refine oW T_mHt51_ok ?_;simp only[go_sem];refine hK7 _ ?_;refine oC rfl ?_ ?_
  ·
   intro c0;obtain ⟨i0,hi,hlt⟩:=hgd (by omega)
   have hst:stepC (ns.getD i0 (0,0,0,[])) ts (insV (ns.getD i0 (0,0,0,[])) ff (valsG (pi,ts,ns,os) cc ff (List.replicate ns.length 0) ((ordL ns).take k))) (cc.getD i0 []):=(step_at (p:=(pi,ts,ns,os)) hF hcc hff hkv.2 (i:=i0) hlt).c
   have hic:insC (ns.getD i0 (0,0,0,[])) ff (valsG (pi,ts,ns,os) cc ff (List.replicate ns.length 0) ((ordL ns).take k)):=insC_of (p:=(pi,ts,ns,os)) hF hfl hkv.1 (i:=i0) hlt
   have e1:valsG (pi,ts,ns,os) cc ff (List.replicate ns.length 0) ((ordL ns).take (k+1))=(valsG (pi,ts,ns,os) cc ff (List.replicate ns.length 0) ((ordL ns).take k)).set i0 (outV (ns.getD i0 (0,0,0,[])).1 (ns.getD i0 (0,0,0,[])).2.1 ts (insV (ns.getD i0 (0,0,0,[])) ff (valsG (pi,ts,ns,os) cc ff (List.replicate ns.length 0) ((ordL ns).take k))) (cc.getD i0 [])):=by
     rw [hnx (by omega),hi]
     rfl
   refine AWP_skip ?_;simp only[go_sem];refine hK6 _ ?_;refine oS fun _ hK8=>?_;refine AWP_block ?_;refine oS fun _ hK9=>?_;refine oW T_mHt51_ok ?_;simp (maxSteps:=2000000)only[hi,go_sem];repeat (with_reducible refine oA ?_)
   refine hK9 _ ?_;refine oS fun _ hK10=>?_;refine oW T_mHt51_ok ?_;simp (maxSteps:=2000000)only[go_sem];repeat (with_reducible refine oA ?_)
   refine hK10 _ ?_
   refine oR T_mHt51_ok
     [[],[],[],[],[3],[3,4],[3,4,5],[],[],[],[7,8,9],[],[11],[11,12],[11,12,13],[],[11,12,13,14,15],[11,12,13,14,15,16],[2,3,4,5,6,7,8,9,10,11,12,13,14,15,16,17],[0,1,2,3,4,5,6,7,8,9,10,11,12,13,14,15,16,17,18],[0,1,2,3,4,5,6,7,8,9,10,11,12,13,14,15,16,17,18,19]]
     [[820,821,822,823,824,825,826,827,828,829,830,831,832,833,834,835],[820,821,822,823,824,825,826,827,828,829,830,831,832,833,834,835],[820,821,822,823,824,825,826,827,828,829,830,831,832,833,834,835],[820,821,822,823,824,825,826,827,828,829,830,831,832,833,834,835],[820,821,822,823,824,825,826,827,828,829,830,831,832,833,834,835],[820,821,822,823,824,825,826,827,828,829,830,831,832,833,834,835],[820,821,822,823,824,825,826,827,828,829,830,831,832,833,834,835],[],[],[],[],[820,821,822,823,824,825,826,827,828,829,830,831,832,833,834,835],[820,821,822,823,824,825,826,827,828,829,830,831,832,833,834,835],[820,821,822,823,824,825,826,827,828,829,830,831,832,833,834,835],[820,821,822,823,824,825,826,827,828,829,830,831,832,833,834,835],[820,821,822,823,824,825,826,827,828,829,830,831,832,833,834,835],[820,821,822,823,824,825,826,827,828,829,830,831,832,833,834,835],[820,821,822,823,824,825,826,827,828,829,830,831,832,833,834,835],[],[],[]]
     [[],[],[],[],[],[],[],[],[],[],[820,821,822,823,824,825,826,827,828,829,830,831,832,833,834,835],[],[],[],[],[],[],[],[],[],[]] (by kernel_rfl) (by kernel_rfl) (adrawR_ok (acc:=[]) ?_)
   simp (maxSteps:=2000000)only[List.nodup_nil,go_sem];repeat (with_reducible first | refine oD ?_ | refine And.intro (by first | exact hic | exact hst) ?_)
   refine hK8 _ ?_;refine oW T_mHt51_ok ?_;simp only[go_sem];refine hL5 ⟨k+1,by omega⟩ _ (oK ?_) ?_
   ·
    simp (maxSteps:=2000000)only[go_sem];all_goals ((repeat' refine And.intro ?_ ?_)<;>first | rfl | exact wk (by omega) | exact e1.symm)
   ·
    first | (simp only[]; omega) | omega | (simp; omega)
  intro c0;refine AWP_exit ?_;simp only[go_sem];refine hK3 _ ?_;refine oS fun _ hK11=>?_;refine oW T_mHt51_ok ?_;simp only[go_sem];refine hK11 _ ?_;refine AWP_ret ?_;simp only[hres,go_sem];first | exact oF | (refine ⟨?_,oF⟩; exact congrArg (valsG (pi,ts,ns,os) cc ff (List.replicate ns.length 0)) (List.take_of_length_le (by omega)))
def T_l08Values:Tab:=fun f=>if f=105 then some (.p K_l08Values) else T_mHt51 f
theorem T_l08Values_ok:TabOk Tryz.prog T_l08Values:=tabP l08Values_ok (fnOk_of Tryz.func105 rfl (by decide)) T_mHt51_ok
attribute [go_sem] T_l08Values K_l08Values
def K_l08Step:GCon where
  ps:=[.ptr ((.prod (.int .i64) (.prod (.row 26 (.row 2 (.int .i64))) (.prod (.row 93 (.prod (.int .i64) (.prod (.int .i64) (.prod (.int .i64) (.row 2 (.int .i64)))))) (.row 2 (.int .i64)))))),.po 0,.val ((.row 2 (.int .i64))),.val ((.row 2 (.int .i64)))]
  os:=[.box [.rd ((.row 26 (.row 2 (.int .i64))))]]
  c:=fun x=>patchB x.1.1=true∧StOk x.1.1 x.2.1.1∧(x.1.2.2.1.length:Int)=x.1.1.1∧smps x.1.2.2.1=true∧valsOk x.1.1 x.1.2.2.2.1
  r:=fun _=>.tup []
  o:=fun x=>[(30,.box [.ow 10]),(10,.tree 26 (.row 2 (.int .i64)) (nextL x.1.1 x.2.1.1 x.1.2.2.1 x.1.2.2.2.1) none)]
  ok:=by
    rintro ⟨⟨⟨(pi:Int),(ts:List (List Int)),(ns:List NodeD),(os:List Int)⟩,_,(ff:List Int),(vv:List Int),_⟩,⟨⟨(cc:List (List Int)),_⟩,_⟩⟩
    exact ⟨rfl,rfl,by decide⟩
theorem l08Step_ok:GenT Tryz.prog 106 K_l08Step:=by
  refine gen_of_body Tryz.func106 rfl ?_
  have hres:Tryz.f106.results.toList=[]:=rfl
  rintro ⟨⟨⟨(pi:Int),(ts:List (List Int)),(ns:List NodeD),(os:List Int)⟩,_,(ff:List Int),(vv:List Int),_⟩,⟨⟨(cc:List (List Int)),_⟩,_⟩⟩ hc hL hO
  simp only[K_l08Step,go_sem] at hL
  simp only[K_l08Step,go_sem] at hO
  simp only[K_l08Step,St.init,St.initG,Tryz.ntmps106,go_sem] 
  obtain ⟨hP,hcc,hfl,hff,hvv⟩:=(show patchB (pi,ts,ns,os)=true∧StOk (pi,ts,ns,os) cc∧(ff.length:Int)=(pi,ts,ns,os).1∧smps ff=true∧valsOk (pi,ts,ns,os) vv from hc)
  obtain ⟨hF,hol⟩:=patchB_parts hP
  have hn24:ns.length≤24:=(formedB_parts hF).1
  have hvl:vv.length=ns.length:=hvv.1
  have hsl:cc.length=ns.length:=hcc.1
  refine oS fun _ hK1=>?_;refine oW T_l08Values_ok ?_;simp only[List.nodup_nil,go_sem];repeat (with_reducible refine oA ?_)
  refine hK1 _ ?_;refine oS fun _ hK2=>?_;refine oS fun _ hK3=>?_;refine oW T_l08Values_ok ?_;simp only[go_sem];refine hK3 _ ?_;refine AWP_block ?_;refine AWP_loop_k (ι:={ k:Nat // k≤ns.length }) (fun k=>⟨[.c (.pt [] ((.prod (.int .i64) (.prod (.row 26 (.row 2 (.int .i64))) (.prod (.row 93 (.prod (.int .i64) (.prod (.int .i64) (.prod (.int .i64) (.row 2 (.int .i64)))))) (.row 2 (.int .i64)))))) (pi,ts,ns,os) 0),.c (.po 30 0),.c (.rd [] 2 (.int .i64) (ff)),.c (.rd [] 2 (.int .i64) (vv)),zz,zz,zz,zz,.c (.ow 9001),.c (.sc (.int .i64 (k.1))),zz,zz,zz,zz,zz,zz,zz,zz,zz,zz,zz,zz,zz,zz,zz,zz,zz,zz,zz,zz,zz,zz,zz,zz,zz,zz,zz,zz,zz,zz,zz,zz,zz,zz,zz,zz,zz,zz,zz,zz,zz],[(30,.box [.rd [] 26 ((.row 2 (.int .i64))) (cc)]),(9001,.tree 26 (.row 2 (.int .i64)) ((List.range k.1).map (fun q=>nextP (pi,ts,ns,os) cc ff vv (vv.getD q 0) q)) none)]⟩) (fun k=>ns.length - k.1) ⟨0,by simp⟩ ?_ ?_
  ·
   refine oK ?_;simp (maxSteps:=2000000)only[go_sem];all_goals ((repeat' refine And.intro ?_ ?_)<;>first | rfl | (congr 1; done) | (simp; done))
  rintro ⟨k,hk⟩ K4 hL4
  have hrl:((List.range k).map (fun q=>nextP (pi,ts,ns,os) cc ff vv (vv.getD q 0) q)).length=k:=by rw [List.length_map,List.length_range]
  have hnx:(List.range (k+1)).map (fun q=>nextP (pi,ts,ns,os) cc ff vv (vv.getD q 0) q)=(List.range k).map (fun q=>nextP (pi,ts,ns,os) cc ff vv (vv.getD q 0) q)++[nextP (pi,ts,ns,os) cc ff vv (vv.getD k 0) k]:=by rw [List.range_succ,List.map_append]; rfl
  refine oS fun _ hK5=>?_;refine oS fun _ hK6=>?_;refine oW T_l08Values_ok ?_;simp (maxSteps:=2000000)only[go_sem];repeat (with_reducible refine oA ?_)
  refine hK6 _ ?_;refine oC rfl ?_ ?_
  ·
   intro c0;have hst :∃tabs,stepC (ns.getD k (0,0,0,[])) tabs (insV (ns.getD k (0,0,0,[])) ff vv) (cc.getD k []):=⟨ts,(step_at (p:=(pi,ts,ns,os)) hF hcc hff hvv.2 (i:=k) (by show k < ns.length; omega)).c⟩
   have hic:insC (ns.getD k (0,0,0,[])) ff vv:=insC_of (p:=(pi,ts,ns,os)) hF hfl hvv.1 (i:=k) (by show k < ns.length; omega)
   refine AWP_skip ?_;simp only[go_sem];refine hK5 _ ?_;refine oS fun _ hK7=>?_;refine AWP_block ?_;refine oS fun _ hK8=>?_;refine oW T_l08Values_ok ?_;simp (maxSteps:=2000000)only[go_sem];repeat (with_reducible refine oA ?_)
   refine hK8 _ ?_
   refine oR T_l08Values_ok
     [[],[],[],[],[],[2,3,4],[],[6],[6,7],[6,7,8],[],[6,7,8,9,10],[6,7,8,9,10,11],[],[],[13,14],[13,14,15],[1,2,3,4,5,6,7,8,9,10,11,12,13,14,15,16],[1,2,3,4,5,6,7,8,9,10,11,12,13,14,15,16,17],[0,1,2,3,4,5,6,7,8,9,10,11,12,13,14,15,16,17,18],[0,1,2,3,4,5,6,7,8,9,10,11,12,13,14,15,16,17,18,19]]
     [[612,613,614,615,616,617,618,619,620,621,622,623,624,625,626,627,804,805,806,807,808,809,810,811,812,813,814,815,816,817,818,819,820],[612,613,614,615,616,617,618,619,620,621,622,623,624,625,626,627],[],[],[],[],[612,613,614,615,616,617,618,619,620,621,622,623,624,625,626,627],[612,613,614,615,616,617,618,619,620,621,622,623,624,625,626,627],[612,613,614,615,616,617,618,619,620,621,622,623,624,625,626,627],[612,613,614,615,616,617,618,619,620,621,622,623,624,625,626,627],[612,613,614,615,616,617,618,619,620,621,622,623,624,625,626,627],[612,613,614,615,616,617,618,619,620,621,622,623,624,625,626,627],[612,613,614,615,616,617,618,619,620,621,622,623,624,625,626,627],[612,613,614,615,616,617,618,619,620,621,622,623,624,625,626,627],[612,613,614,615,616,617,618,619,620,621,622,623,624,625,626,627],[612,613,614,615,616,617,618,619,620,621,622,623,624,625,626,627],[612,613,614,615,616,617,618,619,620,621,622,623,624,625,626,627],[],[],[],[]]
     [[],[],[],[],[],[612,613,614,615,616,617,618,619,620,621,622,623,624,625,626,627],[],[],[],[],[],[],[],[],[],[],[],[804,805,806,807,808,809,810,811,812,813,814,815,816,817,818,819],[612,613,614,615,616,617,618,619,620,621,622,623,624,625,626,627,804,805,806,807,808,809,810,811,812,813,814,815,816,817,818,819,820],[],[]] (by kernel_rfl) (by kernel_rfl) (adrawR_ok (acc:=[]) ?_)
   simp (maxSteps:=2000000)only[List.nodup_cons,List.nodup_nil,List.not_mem_nil,not_false_eq_true,go_sem];repeat (with_reducible first | refine oD ?_ | refine And.intro (by first | exact hic | exact hst) ?_)
   refine hK7 _ ?_;refine oW T_l08Values_ok ?_;simp only[go_sem];refine hL4 ⟨k+1,by omega⟩ _ (oK ?_) ?_
   ·
    simp (maxSteps:=2000000)only[go_sem];all_goals ((repeat' refine And.intro ?_ ?_)<;>first | rfl | exact wk (by omega) | (congr 1; exact hnx.symm) | exact hnx.symm)
   ·
    first | (simp only[]; omega) | omega | (simp; omega)
  intro c0;refine AWP_exit ?_;simp only[go_sem];refine hK2 _ ?_;refine oW T_l08Values_ok ?_;simp (maxSteps:=2000000)only[go_sem];repeat (with_reducible refine oA ?_)
  simp (maxSteps:=2000000)only[hres,go_sem]
  first
   | exact oG
   | refine ⟨oG,?_⟩
     have hk3:k=ns.length:=by omega
     clear hK1 hK2 hK3 hL4 hK5 hK6;subst hk3
     (repeat' refine And.intro ?_ ?_)<;>first | rfl | (congr 1; done)
def T_l08Step:Tab:=fun f=>if f=106 then some (.g K_l08Step) else T_l08Values f
theorem T_l08Step_ok:TabOk Tryz.prog T_l08Step:=tabG l08Step_ok (fnOk_of Tryz.func106 rfl (by decide)) T_l08Values_ok
attribute [go_sem] T_l08Step K_l08Step
end Go.Proofs.YtgmabhkmiokiaaaGreat
