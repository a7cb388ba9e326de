/-
  Texts of this claim, joined (part 44). No condition beyond those of the theorems.
-/
import Derived.Test.YtgmabhkmiokiaaaGreatVa06
import Derived.Test.YtgmabhkmiokiaaaGreatVa04
import Derived.Test.YtgmabhkmiokiaaaGreatVa41
import Derived.Test.YtgmabhkmiokiaaaGreatVa43
import Derived.Test.YtgmabhkmiokiaaaGreatVa14
namespace Go.Proofs.YtgmabhkmiokiaaaGreat
open Go.RowKit
set_option linter.unusedSimpArgs false
set_option linter.unusedVariables false
set_option maxRecDepth 100000
set_option maxHeartbeats 4000000
def K_l00Own:Con:=⟨[.val ((.row 2 (.int .i64)))],[⟨(.row 2 (.int .i64)),true⟩],fun x=>x.1.length≤1099511627776,fun x=>x.1⟩
theorem l00Own_ok:PureT Tryz.prog 96 K_l00Own:=by
  refine pure_of_body Tryz.func96 rfl ?_
  have hres:Tryz.f96.results.toList=[.tmp 2]:=rfl
  rintro ⟨(xs:List Int),_⟩ hc hL
  simp only[K_l00Own,go_sem] at hL
  simp only[K_l00Own,St.init,St.initG,Tryz.ntmps96,go_sem] 
  have hx:xs.length≤1099511627776:=hc
  refine oS fun _ hK1=>?_;refine oW T_kinds_ok ?_;simp only[go_sem];refine hK1 _ ?_;refine oS fun _ hK2=>?_;refine oW T_kinds_ok ?_;simp only[go_sem];repeat (with_reducible refine oA ?_)
  refine hK2 _ ?_;refine AWP_ret ?_;simp only[hres,go_sem];first | exact oF | exact oFr
def T_l00Own:Tab:=fun f=>if f=96 then some (.p K_l00Own) else T_kinds f
theorem T_l00Own_ok:TabOk Tryz.prog T_l00Own:=tabP l00Own_ok (fnOk_of Tryz.func96 rfl (by decide)) T_kinds_ok
attribute [go_sem] T_l00Own K_l00Own
def K_l07Own:Con:=⟨[.ptr (.prod (.int .i64) (.prod (.row 26 (.row 2 (.int .i64))) (.prod (.row 93 (.prod (.int .i64) (.prod (.int .i64) (.prod (.int .i64) (.row 2 (.int .i64)))))) (.row 2 (.int .i64)))))],[⟨(.prod (.int .i64) (.prod (.row 26 (.row 2 (.int .i64))) (.prod (.row 93 (.prod (.int .i64) (.prod (.int .i64) (.prod (.int .i64) (.row 2 (.int .i64)))))) (.row 2 (.int .i64))))),true⟩],fun x=>fitsP x.1,fun x=>x.1⟩
theorem l07Own_ok:PureT Tryz.prog 123 K_l07Own:=by
  refine pure_of_body Tryz.func123 rfl ?_
  have hres:Tryz.f123.results.toList=[.cell 2 28]:=rfl
  rintro ⟨⟨(pi:Int),(ts:List (List Int)),(ns:List NodeD),(os:List Int)⟩,_⟩ hc hL
  simp only[K_l07Own,go_sem] at hL
  simp only[K_l07Own,St.init,St.initG,Tryz.ntmps123,go_sem] 
  obtain ⟨⟨hx1,hx2⟩,⟨hy1,hy2⟩,hz⟩:=(show fitsP (pi,ts,ns,os) from hc)
  simp only at hx1 hx2 hy1 hy2 hz
  refine oS fun _ hK1=>?_;refine oW T_l00Own_ok ?_;simp only[go_sem];refine hK1 _ ?_;refine oS fun _ hK2=>?_
  refine oR T_l00Own_ok
    [[],[0],[0,1],[0,1,2],[],[4],[4,5],[4,5,6],[4,5,6,7],[0,1,2,3,4,5,6,7,8],[],[0,1,2,3,4,5,6,7,8,9,10]]
    [[148,340,341,342,343,344,345,346,347,348,349,350,351,352,353,354,355],[148,340,341,342,343,344,345,346,347,348,349,350,351,352,353,354,355],[148,340,341,342,343,344,345,346,347,348,349,350,351,352,353,354,355],[148,340,341,342,343,344,345,346,347,348,349,350,351,352,353,354,355],[148],[148],[148],[148],[148],[148],[340,341,342,343,344,345,346,347,348,349,350,351,352,353,354,355],[]]
    [[],[],[],[],[],[],[],[],[340,341,342,343,344,345,346,347,348,349,350,351,352,353,354,355],[],[148],[]] (by kernel_rfl) (by kernel_rfl) (adrawR_ok (acc:=[]) ?_)
  simp (maxSteps:=2000000)only[go_sem];repeat (with_reducible first | refine oD ?_ | refine And.intro (by first | assumption) ?_)
  refine hK2 _ ?_;refine oS fun _ hK3=>?_;refine oS fun _ hK4=>?_;refine oW T_l00Own_ok ?_;simp only[go_sem];refine hK4 _ ?_;refine AWP_block ?_;refine AWP_wk (Wk_nilBox _ 148 1 9001 26 ((.row 2 (.int .i64))) (by decide)) ?_;simp (maxSteps:=2000000)only[go_sem];refine AWP_loop_k (ι:={ k:Nat // k≤ts.length }) (fun k=>⟨[.c (.pt [] ((.prod (.int .i64) (.prod (.row 26 (.row 2 (.int .i64))) (.prod (.row 93 (.prod (.int .i64) (.prod (.int .i64) (.prod (.int .i64) (.row 2 (.int .i64)))))) (.row 2 (.int .i64)))))) (pi,ts,ns,os) 0),zz,.c (.po 132 0),.c (.po 148 0),.c (.sc (.int .i64 (k.1))),zz,zz,zz,zz,zz,zz,zz,zz,zz,zz,zz,zz,zz,zz,zz,zz,zz,zz,zz,zz,zz,zz,zz,zz,zz,zz,zz,zz,zz,zz,zz,zz,zz,zz,zz,zz,zz,zz,zz,zz,zz,zz,zz,zz,zz,zz,zz,zz,zz,zz,zz,zz,zz,zz,zz,zz,zz,zz,zz,zz,zz],[(132,.box [.sc (.int .i64 (0)),.sc (.slice none 0 0),.sc (.slice none 0 0),.sc (.slice none 0 0)]),(148,.box [.sc (.int .i64 (pi)),.ow 9001,.sc (.slice none 0 0),.ow 9003]),(9001,.tree 26 (.row 2 (.int .i64)) (ts.take k.1) none),(9003,.row 2 (.int .i64) (os) [])]⟩) (fun k=>ts.length - k.1) ⟨0,by simp⟩ ?_ ?_
  ·
   refine oK ?_;simp (maxSteps:=2000000)only[go_sem];all_goals (first | rfl | ((repeat' refine And.intro ?_ ?_)<;>first | rfl | simp))
  rintro ⟨k,hk⟩ K5 hL5
  have htk:(List.take k ts).length≤1099511627776:=by rw [List.length_take]; omega
  have hyk:k < ts.length→(ts.getD k []).length≤1099511627776:=fun h=>hx2 _ (getD_mem h)
  refine oS fun _ hK6=>?_;refine oS fun _ hK7=>?_;refine oW T_l00Own_ok ?_;simp (maxSteps:=2000000)only[go_sem];repeat (with_reducible refine oA ?_)
  refine hK7 _ ?_;refine oC rfl ?_ ?_
  ·
   intro c0;refine AWP_skip ?_;simp only[go_sem];refine hK6 _ ?_;refine oS fun _ hK8=>?_;refine AWP_block ?_
   refine oR T_l00Own_ok
     [[],[0],[],[2],[2,3],[2,3,4],[],[2,3,4,5,6],[2,3,4,5,6,7],[2,3,4,5,6,7,8],[2,3,4,5,6,7,8,9],[0,1,2,3,4,5,6,7,8,9,10],[0,1,2,3,4,5,6,7,8,9,10,11],[0,1,2,3,4,5,6,7,8,9,10,11,12]]
     [[660,661,662,663,664,665,666,667,668,669,670,671,672,673,674,675,676],[660,661,662,663,664,665,666,667,668,669,670,671,672,673,674,675,676],[],[],[],[],[],[],[],[],[],[],[],[]]
     [[],[],[],[],[],[],[],[],[],[660,661,662,663,664,665,666,667,668,669,670,671,672,673,674,675],[660,661,662,663,664,665,666,667,668,669,670,671,672,673,674,675,676],[],[],[]] (by kernel_rfl) (by kernel_rfl) (adrawR_ok (acc:=[]) ?_)
   simp (maxSteps:=2000000)only[List.nodup_cons,List.nodup_nil,List.not_mem_nil,not_false_eq_true,go_sem];repeat (with_reducible first | refine oD ?_ | refine And.intro (by first | exact hyk (by omega)) ?_)
   refine hK8 _ ?_;refine oW T_l00Own_ok ?_;simp only[go_sem];refine hL5 ⟨k+1,by omega⟩ _ (oK ?_) ?_
   ·
    simp (maxSteps:=2000000)only[go_sem];all_goals ((repeat' refine And.intro ?_ ?_)<;>first | rfl | exact wk (by omega) | (congr 1; exact (take_next (xs:=ts) (k:=k) (d:=[]) (by omega)).symm) | exact (take_next (xs:=ts) (k:=k) (d:=[]) (by omega)).symm | (congr 1; done))
   ·
    first | (simp only[]; omega) | omega | (simp; omega)
  intro c0;refine AWP_exit ?_;simp only[go_sem];refine hK3 _ ?_;refine oS fun _ hK9=>?_;refine oS fun _ hK10=>?_;refine oW T_l00Own_ok ?_;simp only[go_sem];refine hK10 _ ?_;refine AWP_block ?_;refine AWP_wk (Wk_nilBox _ 148 2 9002 93 ((.prod (.int .i64) (.prod (.int .i64) (.prod (.int .i64) (.row 2 (.int .i64)))))) (by decide)) ?_;simp (maxSteps:=2000000)only[go_sem];refine AWP_loop_k (ι:={ k:Nat // k≤ns.length }) (fun k=>⟨[.c (.pt [] ((.prod (.int .i64) (.prod (.row 26 (.row 2 (.int .i64))) (.prod (.row 93 (.prod (.int .i64) (.prod (.int .i64) (.prod (.int .i64) (.row 2 (.int .i64)))))) (.row 2 (.int .i64)))))) (pi,ts,ns,os) 0),zz,.c (.po 132 0),.c (.po 148 0),zz,.c (.sc (.int .i64 (k.1))),zz,zz,zz,zz,zz,zz,zz,zz,zz,zz,zz,zz,zz,zz,zz,zz,zz,zz,zz,zz,zz,zz,zz,zz,zz,zz,zz,zz,zz,zz,zz,zz,zz,zz,zz,zz,zz,zz,zz,zz,zz,zz,zz,zz,zz,zz,zz,zz,zz,zz,zz,zz,zz,zz,zz,zz,zz,zz,zz,zz],[(132,.box [.sc (.int .i64 (0)),.sc (.slice none 0 0),.sc (.slice none 0 0),.sc (.slice none 0 0)]),(148,.box [.sc (.int .i64 (pi)),.ow 9001,.ow 9002,.ow 9003]),(9001,.tree 26 (.row 2 (.int .i64)) (ts) none),(9002,.tree 93 (.prod (.int .i64) (.prod (.int .i64) (.prod (.int .i64) (.row 2 (.int .i64))))) (ns.take k.1) none),(9003,.row 2 (.int .i64) (os) [])]⟩) (fun k=>ns.length - k.1) ⟨0,by simp⟩ ?_ ?_
  ·
   refine oK ?_;simp (maxSteps:=2000000)only[go_sem];all_goals ((repeat' refine And.intro ?_ ?_)<;>first | rfl | (congr 1; exact List.take_of_length_le (by omega)) | exact List.take_of_length_le (by omega) | (congr 1; done))
  rintro ⟨k,hk⟩ K11 hL11
  have htk:(List.take k ns).length≤1099511627776:=by rw [List.length_take]; omega
  have hyk:k < ns.length→(ns.getD k ((0,0,0,[]):NodeD)).2.2.2.length≤1099511627776:=fun h=>hy2 _ (getD_mem h)
  refine oS fun _ hK12=>?_;refine oS fun _ hK13=>?_;refine oW T_l00Own_ok ?_;simp (maxSteps:=2000000)only[go_sem];repeat (with_reducible refine oA ?_)
  refine hK13 _ ?_;refine oC rfl ?_ ?_
  ·
   intro c1;refine AWP_skip ?_;simp only[go_sem];refine hK12 _ ?_;refine oS fun _ hK14=>?_;refine AWP_block ?_;refine oS fun _ hK15=>?_;refine oW T_l00Own_ok ?_;simp (maxSteps:=2000000)only[go_sem];repeat (with_reducible refine oA ?_)
   refine hK15 _ ?_;refine oS fun _ hK16=>?_;refine oW T_l00Own_ok ?_;simp (maxSteps:=2000000)only[go_sem];repeat (with_reducible first | refine oA ?_ | refine And.intro (by first | exact hyk (by omega)) ?_)
   refine hK16 _ ?_;refine oW T_l00Own_ok ?_;simp (maxSteps:=2000000)only[List.nodup_cons,List.nodup_nil,List.not_mem_nil,not_false_eq_true,go_sem];repeat (with_reducible refine oA ?_)
   refine hK14 _ ?_;refine oW T_l00Own_ok ?_;simp only[go_sem];refine hL11 ⟨k+1,by omega⟩ _ (oK ?_) ?_
   ·
    simp (maxSteps:=2000000)only[go_sem];all_goals ((repeat' refine And.intro ?_ ?_)<;>first | rfl | exact wk (by omega) | (congr 1; exact (take_next (xs:=ns) (k:=k) (d:=((0,0,0,[]):NodeD)) (by omega)).symm) | exact (take_next (xs:=ns) (k:=k) (d:=((0,0,0,[]):NodeD)) (by omega)).symm | (congr 1; done))
   ·
    first | (simp only[]; omega) | omega | (simp; omega)
  intro c1;refine AWP_exit ?_;simp only[go_sem];refine hK9 _ ?_;refine oS fun _ hK17=>?_;refine oW T_l00Own_ok ?_;simp only[go_sem];repeat (with_reducible refine oA ?_)
  refine hK17 _ ?_;refine AWP_ret ?_;simp only[hres,go_sem];first | exact oF | (refine ⟨?_,oF⟩; exact congrArg (fun z=>((pi,ts,z,os):PatchD)) (List.take_of_length_le (by omega)))
def T_l07Own:Tab:=fun f=>if f=123 then some (.p K_l07Own) else T_l00Own f
theorem T_l07Own_ok:TabOk Tryz.prog T_l07Own:=tabP l07Own_ok (fnOk_of Tryz.func123 rfl (by decide)) T_l00Own_ok
attribute [go_sem] T_l07Own K_l07Own
set_option maxRecDepth 100000
set_option maxHeartbeats 8000000
def T_mHc130:Tab:=fun f=>match T_l12Classes f with
 | some k=>some k
 | none=>T_l07Ok f
theorem T_mHc130_ok:TabOk Tryz.prog T_mHc130:=tabM T_l12Classes_ok T_l07Ok_ok
attribute [go_sem] T_mHc130 T0
def T_mHc131:Tab:=fun f=>match T_mHc130 f with
 | some k=>some k
 | none=>T_l07Own f
theorem T_mHc131_ok:TabOk Tryz.prog T_mHc131:=tabM T_mHc130_ok T_l07Own_ok
attribute [go_sem] T_mHc131 T0
def T_mHc132:Tab:=fun f=>match T_mHc131 f with
 | some k=>some k
 | none=>T_l07Map f
theorem T_mHc132_ok:TabOk Tryz.prog T_mHc132:=tabM T_mHc131_ok T_l07Map_ok
attribute [go_sem] T_mHc132 T0
def K_l07Keep:Con:=⟨[.ptr (.prod (.int .i64) (.prod (.row 26 (.row 2 (.int .i64))) (.prod (.row 93 (.prod (.int .i64) (.prod (.int .i64) (.prod (.int .i64) (.row 2 (.int .i64)))))) (.row 2 (.int .i64))))),.val ((.row 2 (.int .i64)))],[⟨(.prod (.int .i64) (.prod (.row 26 (.row 2 (.int .i64))) (.prod (.row 93 (.prod (.int .i64) (.prod (.int .i64) (.prod (.int .i64) (.row 2 (.int .i64)))))) (.row 2 (.int .i64))))),true⟩],fun x=>KeepOk x.1 x.2.1,fun x=>keepP x.1 x.2.1⟩
theorem l07Keep_ok:PureT Tryz.prog 83 K_l07Keep:=by
  refine pure_of_body Tryz.func83 rfl ?_
  have hres:Tryz.f83.results.toList=[.cell 4 28]:=rfl
  rintro ⟨⟨(pi:Int),(ts:List (List Int)),(ns:List NodeD),(os:List Int)⟩,(kp:List Int),_⟩ hc hL
  simp only[K_l07Keep,go_sem] at hL
  simp only[K_l07Keep,St.init,St.initG,Tryz.ntmps83,go_sem] 
  have hK:KeepOk (pi,ts,ns,os) kp:=hc
  have hfp:fitsP (pi,ts,ns,os):=hK.fits
  have hn24:ns.length≤24:=hK.n24
  have hk24:kp.length≤24:=hK.k24
  have hrg:idxs ns.length kp=true:=hK.rng
  have ho4:os.length≤4:=hK.o4
  have hoi:idxs ns.length os=true:=hK.outs
  have hfr :∀x∈ns,x.2.2.2.length≤23∧idxs ns.length x.2.2.2=true:=hK.frs
  have hby:(byL ns.length kp kp.length).length=ns.length:=byL_len _ _ _
  have hmo:os.length≤1000∧idxs (byL ns.length kp kp.length).length os=true:=⟨by omega,by rw [hby]; exact hoi⟩
  refine oS fun _ hK1=>?_;refine oW T_mHc132_ok ?_;simp only[go_sem];refine hK1 _ ?_;refine oS fun _ hK2=>?_;refine oW T_mHc132_ok ?_;simp (maxSteps:=2000000)only[go_sem];repeat (with_reducible first | refine oA ?_ | refine And.intro (by first | exact ⟨by omega,by omega⟩ | omega) ?_)
  refine hK2 _ ?_;refine oS fun _ hK3=>?_;refine oS fun _ hK4=>?_;refine oW T_mHc132_ok ?_;simp only[go_sem];refine hK4 _ ?_;refine AWP_block ?_;refine AWP_loop_k (ι:={ k:Nat // k≤kp.length }) (fun k=>⟨[.c (.pt [] ((.prod (.int .i64) (.prod (.row 26 (.row 2 (.int .i64))) (.prod (.row 93 (.prod (.int .i64) (.prod (.int .i64) (.prod (.int .i64) (.row 2 (.int .i64)))))) (.row 2 (.int .i64)))))) (pi,ts,ns,os) 0),.c (.rd [] 2 (.int .i64) (kp)),zz,zz,.c (.po 164 0),.c (.ow 9001),.c (.sc (.int .i64 (k.1))),zz,zz,zz,zz,zz,zz,zz,zz,zz,zz,zz,zz,zz,zz,zz,zz,zz,zz,zz,zz,zz,zz,zz,zz,zz,zz,zz,zz,zz,zz,zz,zz,zz,zz,zz,zz,zz,zz,zz,zz,zz,zz,zz,zz,zz,zz,zz,zz,zz,zz,zz,zz,zz,zz,zz,zz,zz,zz,zz,zz,zz],[(164,.box [.sc (.int .i64 (0)),.sc (.slice none 0 0),.sc (.slice none 0 0),.sc (.slice none 0 0)]),(9001,.row 2 (.int .i64) (byL ns.length kp k.1) [])]⟩) (fun k=>kp.length - k.1) ⟨0,by simp⟩ ?_ ?_
  ·
   refine oK ?_;simp (maxSteps:=2000000)only[go_sem];all_goals ((repeat' refine And.intro ?_ ?_)<;>first | rfl | (congr 1; done) | simp)
  rintro ⟨k,hk⟩ K5 hL5
  have hbk:(byL ns.length kp k).length=ns.length:=byL_len _ _ _
  refine oS fun _ hK6=>?_;refine oS fun _ hK7=>?_;refine oW T_mHc132_ok ?_;simp only[go_sem];refine hK7 _ ?_;refine oC rfl ?_ ?_
  ·
   intro c0;obtain ⟨hi1,hi2⟩:=idxs_at hrg (getD_mem (d:=(0:Int)) (show k < kp.length by omega))
   refine AWP_skip ?_;simp only[go_sem];refine hK6 _ ?_;refine oS fun _ hK8=>?_;refine AWP_block ?_;refine oW T_mHc132_ok ?_;simp (maxSteps:=2000000)only[go_sem];repeat (with_reducible first | refine oA ?_ | refine And.intro (by first | exact ⟨by omega,by omega⟩ | omega) ?_)
   refine hK8 _ ?_;refine oW T_mHc132_ok ?_;simp only[go_sem];refine hL5 ⟨k+1,by omega⟩ _ (oK ?_) ?_
   ·
    simp (maxSteps:=2000000)only[go_sem];all_goals ((repeat' refine And.intro ?_ ?_)<;>first | rfl | exact wk (by omega) | (congr 1; done))
   ·
    first | (simp only[]; omega) | omega | (simp; omega)
  intro c0;have hke:k=kp.length:=by omega
  refine AWP_exit ?_;simp only[go_sem];refine hK3 _ ?_;refine oS fun _ hK9=>?_;refine oW T_mHc132_ok ?_;simp only[go_sem];repeat (with_reducible first | refine oA ?_ | refine And.intro (by first | exact hfp) ?_)
  refine hK9 _ ?_;refine oS fun _ hK10=>?_;refine oW T_mHc132_ok ?_;simp only[List.nodup_nil,go_sem];repeat (with_reducible refine oA ?_)
  refine hK10 _ ?_;refine oS fun _ hK11=>?_;refine oS fun _ hK12=>?_;refine oW T_mHc132_ok ?_;simp only[go_sem];refine hK12 _ ?_;refine AWP_block ?_;refine AWP_loop_k (ι:={ k:Nat // k≤kp.length }) (fun k=>⟨[.c (.pt [] ((.prod (.int .i64) (.prod (.row 26 (.row 2 (.int .i64))) (.prod (.row 93 (.prod (.int .i64) (.prod (.int .i64) (.prod (.int .i64) (.row 2 (.int .i64)))))) (.row 2 (.int .i64)))))) (pi,ts,ns,os) 0),.c (.rd [] 2 (.int .i64) (kp)),zz,zz,.c (.po 164 0),.c (.ow 9001),zz,.c (.po 212 0),.c (.sc (.int .i64 (k.1))),zz,zz,zz,zz,zz,zz,zz,zz,zz,zz,zz,zz,zz,zz,zz,zz,zz,zz,zz,zz,zz,zz,zz,zz,zz,zz,zz,zz,zz,zz,zz,zz,zz,zz,zz,zz,zz,zz,zz,zz,zz,zz,zz,zz,zz,zz,zz,zz,zz,zz,zz,zz,zz,zz,zz,zz,zz,zz,zz],[(164,.box [.sc (.int .i64 (0)),.sc (.slice none 0 0),.sc (.slice none 0 0),.sc (.slice none 0 0)]),(9001,.row 2 (.int .i64) ((byL ns.length kp kp.length)) []),(212,.box [.sc (.int .i64 (pi)),.ow 9011,.ow 9012,.ow 9013]),(9011,.tree 26 (.row 2 (.int .i64)) (ts) none),(9012,.tree 93 (.prod (.int .i64) (.prod (.int .i64) (.prod (.int .i64) (.row 2 (.int .i64))))) ((kp.take k.1).map (keepN ns (byL ns.length kp kp.length))) none),(9013,.row 2 (.int .i64) (os) [])]⟩) (fun k=>kp.length - k.1) ⟨0,by simp⟩ ?_ ?_
  ·
   refine oK ?_;simp (maxSteps:=2000000)only[go_sem];all_goals ((repeat' refine And.intro ?_ ?_)<;>first | rfl | (rw [hke]; done) | (congr 1; done) | simp)
  rintro ⟨k,hk⟩ K13 hL13
  have hkl:((kp.take k).map (keepN ns (byL ns.length kp kp.length))).length≤24:=by rw [List.length_map,List.length_take]; omega
  refine oS fun _ hK14=>?_;refine oS fun _ hK15=>?_;refine oW T_mHc132_ok ?_;simp only[go_sem];refine hK15 _ ?_;refine oC rfl ?_ ?_
  ·
   intro c1;obtain ⟨hi1,hi2⟩:=idxs_at hrg (getD_mem (d:=(0:Int)) (show k < kp.length by omega))
   obtain ⟨hx1,hx2⟩:=hfr _ (getD_mem (d:=((0,0,0,[]):NodeD)) (show (kp.getD k 0).toNat < ns.length by omega))
   have hmc:(ns.getD (kp.getD k 0).toNat ((0,0,0,[]):NodeD)).2.2.2.length≤1000∧idxs (byL ns.length kp kp.length).length (ns.getD (kp.getD k 0).toNat ((0,0,0,[]):NodeD)).2.2.2=true:=⟨Nat.le_trans hx1 (by decide),by rw [hby]; exact hx2⟩
   have hml:(List.map (fun q=>(byL ns.length kp kp.length).getD (Int.toNat q) 0) (ns.getD (kp.getD k 0).toNat ((0,0,0,[]):NodeD)).2.2.2).length≤23:=by rw [List.length_map]; exact hx1
   have hnx:(kp.take k).map (keepN ns (byL ns.length kp kp.length))++[((ns.getD (kp.getD k 0).toNat ((0,0,0,[]):NodeD)).1,(ns.getD (kp.getD k 0).toNat ((0,0,0,[]):NodeD)).2.1,(ns.getD (kp.getD k 0).toNat ((0,0,0,[]):NodeD)).2.2.1,List.map (fun q=>(byL ns.length kp kp.length).getD (Int.toNat q) 0) (ns.getD (kp.getD k 0).toNat ((0,0,0,[]):NodeD)).2.2.2)]=(kp.take (k+1)).map (keepN ns (byL ns.length kp kp.length)):=map_nx (0:Int) (by omega)
   refine AWP_skip ?_;simp only[go_sem];refine hK14 _ ?_;refine oS fun _ hK16=>?_;refine AWP_block ?_;refine oS fun _ hK17=>?_
   refine oR T_mHc132_ok
     [[],[0],[0,1],[0,1,2],[],[],[4,5],[4,5,6],[0,1,2,3,4,5,6,7],[0,1,2,3,4,5,6,7,8],[],[0,1,2,3,4,5,6,7,8,9,10]]
     [[244],[244],[244],[244],[244],[244],[244],[244],[244],[244],[],[]]
     [[],[],[],[],[],[],[],[],[],[],[244],[]] (by kernel_rfl) (by kernel_rfl) (adrawR_ok (acc:=[]) ?_)
   simp (maxSteps:=2000000)only[go_sem];repeat (with_reducible first | refine oD ?_ | refine And.intro (by first | exact ⟨by omega,by omega⟩ | omega) ?_)
   refine hK17 _ ?_;refine oS fun _ hK18=>?_;refine oW T_mHc132_ok ?_;simp (maxSteps:=2000000)only[go_sem];repeat (with_reducible first | refine oA ?_ | refine And.intro (by first | exact hmc) ?_)
   refine hK18 _ ?_;refine oW T_mHc132_ok ?_;simp (maxSteps:=2000000)only[List.nodup_cons,List.nodup_nil,List.not_mem_nil,not_false_eq_true,go_sem];repeat (with_reducible first | refine oA ?_ | refine And.intro (by first | omega) ?_)
   refine hK16 _ ?_;refine oW T_mHc132_ok ?_;simp only[go_sem];refine hL13 ⟨k+1,by omega⟩ _ (oK ?_) ?_
   ·
    simp (maxSteps:=2000000)only[go_sem];all_goals ((repeat' refine And.intro ?_ ?_)<;>first | rfl | exact wk (by omega) | exact hnx | (congr 1; exact hnx) | (congr 1; done))
   ·
    first | (simp only[]; omega) | omega | (simp; omega)
  intro c1;refine AWP_exit ?_;simp only[go_sem];refine hK11 _ ?_;refine oS fun _ hK19=>?_;refine oW T_mHc132_ok ?_;simp (maxSteps:=2000000)only[go_sem];repeat (with_reducible first | refine oA ?_ | refine And.intro (by first | exact hmo) ?_)
  refine hK19 _ ?_;refine oS fun _ hK20=>?_;refine oW T_mHc132_ok ?_;simp only[go_sem];repeat (with_reducible refine oA ?_)
  refine hK20 _ ?_;refine AWP_ret ?_;simp only[hres,go_sem]
  first
   | exact oF
   | refine ⟨?_,oF⟩
     have hk3:k=kp.length:=by omega
     clear hK1 hK2 hK3 hK4 hL5 hK6 hK7 hK9 hK10 hK11 hK12 hL13 hK14 hK15 hK19 hK20;subst hk3;unfold keepP;rw [List.take_of_length_le (Nat.le_refl _)]
     rfl
def T_l07Keep:Tab:=fun f=>if f=83 then some (.p K_l07Keep) else T_mHc132 f
theorem T_l07Keep_ok:TabOk Tryz.prog T_l07Keep:=tabP l07Keep_ok (fnOk_of Tryz.func83 rfl (by decide)) T_mHc132_ok
attribute [go_sem] T_l07Keep K_l07Keep
def T_specMerge:Tab:=T_l07Keep
attribute [go_sem] T_specMerge
end Go.Proofs.YtgmabhkmiokiaaaGreat
