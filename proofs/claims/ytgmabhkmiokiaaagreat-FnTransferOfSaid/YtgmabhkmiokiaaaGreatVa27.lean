/-
  Texts of this claim, joined (part 27). No condition beyond those of the theorems.
-/
import Derived.Test.YtgmabhkmiokiaaaGreatVa24
import Derived.Test.YtgmabhkmiokiaaaGreatVa07
namespace Go.Proofs.YtgmabhkmiokiaaaGreat
open Go.RowKit
set_option linter.unusedSimpArgs false
set_option linter.unusedVariables false
set_option maxRecDepth 100000
set_option maxHeartbeats 4000000
def K_stateOf:GCon where
  ps:=[.val ((.prod (.int .i64) (.prod (.row 26 (.row 2 (.int .i64))) (.prod (.row 93 (.prod (.int .i64) (.prod (.int .i64) (.prod (.int .i64) (.row 2 (.int .i64)))))) (.row 2 (.int .i64)))))),.val ((.row 2 (.int .i64)))]
  os:=[]
  c:=fun x=>formedB x.1.1=true∧x.1.2.1.length=cellN x.1.1.2.2.1
  r:=fun _=>.agg [.ow 10]
  o:=fun x=>[(10,.tree 26 (.row 2 (.int .i64)) (setS x.1.1.2.2.1 x.1.2.1) none)]
  ok:=by
    rintro ⟨⟨⟨(pi:Int),(ts:List (List Int)),(ns:List NodeD),(os:List Int)⟩,(cs:List Int),_⟩,_⟩
    exact ⟨rfl,rfl,by decide⟩
theorem stateOf_ok:GenT Tryz.prog 74 K_stateOf:=by
  refine gen_of_body Tryz.func74 rfl ?_
  have hres:Tryz.f74.results.toList=[.cell 4 84]:=rfl
  rintro ⟨⟨⟨(pi:Int),(ts:List (List Int)),(ns:List NodeD),(os:List Int)⟩,(cs:List Int),_⟩,_⟩ hc hL hO
  simp only[K_stateOf,go_sem] at hL
  simp only[K_stateOf,go_sem] at hO
  simp only[K_stateOf,St.init,St.initG,Tryz.ntmps74,go_sem] 
  obtain ⟨hF,hcs⟩:=(show formedB (pi,ts,ns,os)=true∧cs.length=cellN ns from hc)
  have hn24:ns.length≤24:=(formedB_parts hF).1
  have hc384:cellN ns≤384:=cellN_384 (p:=(pi,ts,ns,os)) hF
  have hsl:(setS ns cs).length=ns.length:=setS_len _ _
  refine oS fun _ hK1=>?_;refine oW T_flat_ok ?_;simp only[go_sem];refine hK1 _ ?_;refine oS fun _ hK2=>?_;refine oW T_flat_ok ?_;simp only[go_sem];repeat (with_reducible refine oA ?_)
  refine hK2 _ ?_;refine oS fun _ hK3=>?_;refine oS fun _ hK4=>?_;refine oW T_flat_ok ?_;simp only[go_sem];repeat (with_reducible refine oA ?_)
  refine hK4 _ ?_;refine AWP_block ?_;refine AWP_wk (Wk_nilBox _ 180 0 9001 26 ((.row 2 (.int .i64))) (by decide)) ?_;simp (maxSteps:=2000000)only[go_sem];refine AWP_loop_k (ι:={ k:Nat // k≤ns.length }) (fun k=>⟨[zz,.c (.rd [] 2 (.int .i64) (cs.drop (offN ns k.1))),zz,zz,.c (.po 164 0),.c (.po 180 0),zz,zz,zz,zz,zz,.c (.rd [] 93 ((.prod (.int .i64) (.prod (.int .i64) (.prod (.int .i64) (.row 2 (.int .i64)))))) (ns)),.c (.sc (.int .i64 (ns.length))),.c (.sc (.int .i64 (k.1))),zz,zz,zz,zz,zz,zz,zz,zz,zz,zz,zz,zz,zz,zz,zz,zz,zz,zz,zz,zz],[(164,.box [.sc (.slice none 0 0)]),(180,.box [.ow 9001]),(9001,.tree 26 (.row 2 (.int .i64)) ((setS ns cs).take k.1) none)]⟩) (fun k=>ns.length - k.1) ⟨0,by simp⟩ ?_ ?_
  ·
   refine oK ?_;simp (maxSteps:=2000000)only[go_sem];all_goals ((repeat' refine And.intro ?_ ?_)<;>first | rfl | (congr 1; done) | (simp [offN,cellN]; done))
  rintro ⟨k,hk⟩ K5 hL5
  have htk:(List.take k (setS ns cs)).length≤24:=by rw [List.length_take]; omega
  refine oS fun _ hK6=>?_;refine oW T_flat_ok ?_;simp only[go_sem];refine hK6 _ ?_;refine oS fun _ hK7=>?_;refine oC rfl ?_ ?_
  ·
   intro c0;have hnc:nodeC ((ns.getD k ((0,0,0,[]):NodeD)).1,(ns.getD k ((0,0,0,[]):NodeD)).2.1,(ns.getD k ((0,0,0,[]):NodeD)).2.2.1,(ns.getD k ((0,0,0,[]):NodeD)).2.2.2):=nodeC_at (p:=(pi,ts,ns,os)) hF (by show k < ns.length; omega)
   have hnx:offN ns (k+1)=offN ns k+(startV (ns.getD k ((0,0,0,[]):NodeD))).length:=offN_next (by omega)
   have hse:(startV ((ns.getD k ((0,0,0,[]):NodeD)).1,(ns.getD k ((0,0,0,[]):NodeD)).2.1,(ns.getD k ((0,0,0,[]):NodeD)).2.2.1,(ns.getD k ((0,0,0,[]):NodeD)).2.2.2)).length=(startV (ns.getD k ((0,0,0,[]):NodeD))).length:=rfl
   have hle:offN ns (k+1)≤cellN ns:=offN_le (by omega)
   have hpt:=setS_next (ns:=ns) (c:=cs) (k:=k) (by omega)
   have hpl:((cs.drop (offN ns k)).take (startV (ns.getD k ((0,0,0,[]):NodeD))).length).length≤1099511627776:=by rw [List.length_take,List.length_drop]; omega
   have hdl:(cs.drop (offN ns k)).length=cellN ns - offN ns k:=by rw [List.length_drop,hcs]
   have hdr:((cs.drop (offN ns k)).take (cellN ns - offN ns k)).drop (startV (ns.getD k ((0,0,0,[]):NodeD))).length=cs.drop (offN ns (k+1)):=by rw [List.take_of_length_le (by omega)]; exact drop_off (by omega)
   refine AWP_skip ?_;simp only[go_sem];refine hK7 _ ?_;refine oS fun _ hK8=>?_;refine AWP_block ?_;refine oS fun _ hK9=>?_;refine oW T_flat_ok ?_;simp only[go_sem];repeat (with_reducible refine oA ?_)
   refine hK9 _ ?_;refine oS fun _ hK10=>?_;refine oW T_flat_ok ?_;simp only[go_sem];repeat (with_reducible first | refine oA ?_ | refine And.intro (by first | exact hnc) ?_)
   refine hK10 _ ?_;refine oS fun _ hK11=>?_
   refine oR T_flat_ok
     [[],[0],[],[],[2,3],[2,3,4],[2,3,4,5],[0,1,2,3,4,5,6],[0,1,2,3,4,5,6,7],[0,1,2,3,4,5,6,7,8]]
     [[500,501,502,503,504,505,506,507,508,509,510,511,512,513,514,515,516],[500,501,502,503,504,505,506,507,508,509,510,511,512,513,514,515,516],[],[],[],[],[],[],[],[]]
     [[],[],[],[],[],[500,501,502,503,504,505,506,507,508,509,510,511,512,513,514,515],[500,501,502,503,504,505,506,507,508,509,510,511,512,513,514,515,516],[],[],[]] (by kernel_rfl) (by kernel_rfl) (adrawR_ok (acc:=[]) ?_)
   simp (maxSteps:=2000000)only[List.nodup_cons,List.nodup_nil,List.not_mem_nil,not_false_eq_true,hdl,hse,go_sem];repeat (with_reducible first | refine oD ?_ | refine And.intro (by first | exact hpl | omega) ?_)
   refine hK11 _ ?_;refine oW T_flat_ok ?_;simp only[hdl,hse,go_sem];repeat (with_reducible refine oA ?_)
   refine hK8 _ ?_;refine oW T_flat_ok ?_;simp only[go_sem];refine hL5 ⟨k+1,by omega⟩ _ (oK ?_) ?_
   ·
    simp (maxSteps:=2000000)only[go_sem];all_goals ((repeat' refine And.intro ?_ ?_)<;>first | rfl | exact wk (by omega) | exact hpt | (congr 1; exact hpt) | exact hdr | (congr 1; exact hdr) | (congr 1; done))
   ·
    first | (simp only[]; omega) | omega | (simp; omega)
  intro c0;have hke:(setS ns cs).take k=setS ns cs:=List.take_of_length_le (by omega)
  refine AWP_exit ?_;simp only[go_sem];refine hK3 _ ?_;refine oS fun _ hK12=>?_;refine oW T_flat_ok ?_;simp only[go_sem];repeat (with_reducible refine oA ?_)
  refine hK12 _ ?_;refine AWP_ret ?_;simp only[hres,go_sem];first | exact oG | (refine ⟨oG,?_⟩; (repeat' refine And.intro ?_ ?_)<;>first | rfl | (rw [hke]; done) | (congr 1; done))
def T_stateOf:Tab:=fun f=>if f=74 then some (.g K_stateOf) else T_flat f
theorem T_stateOf_ok:TabOk Tryz.prog T_stateOf:=tabG stateOf_ok (fnOk_of Tryz.func74 rfl (by decide)) T_flat_ok
attribute [go_sem] T_stateOf K_stateOf
def K_colsRows:Con:=⟨[.val ((.row 26 (.row 2 (.int .i64)))),.val (.int .i64)],[⟨(.row 26 (.row 2 (.int .i64))),true⟩],fun x=>inR x.2.1 0 1000=true∧x.1.length≤1000∧∀ j,j < x.1.length→(x.1.getD j []).length=Int.toNat x.2.1,fun x=>(List.range (Int.toNat x.2.1)).map (rowC x.1)⟩
theorem colsRows_ok:PureT Tryz.prog 79 K_colsRows:=by
  refine pure_of_body Tryz.func79 rfl ?_
  have hres:Tryz.f79.results.toList=[.tmp 4]:=rfl
  rintro ⟨(cc:List (List Int)),(rw:Int),_⟩ hc hL
  simp only[K_colsRows,go_sem] at hL
  simp only[K_colsRows,St.init,St.initG,Tryz.ntmps79,go_sem] 
  obtain ⟨hr,hcl,hco⟩:=(show inR rw 0 1000=true∧cc.length≤1000∧∀ j,j < cc.length→(cc.getD j []).length=(Int.toNat rw) from hc)
  obtain ⟨hr1,hr2⟩:=inR_iff.1 hr
  have hrn:(((Int.toNat rw):Nat):Int)=rw:=Int.toNat_of_nonneg hr1
  refine oS fun _ hK1=>?_;refine oW T_stateOf_ok ?_;simp only[go_sem];refine hK1 _ ?_;refine oS fun _ hK2=>?_;refine oW T_stateOf_ok ?_;simp only[go_sem];repeat (with_reducible refine oA ?_)
  refine hK2 _ ?_;refine oS fun _ hK3=>?_;refine oS fun _ hK4=>?_;refine oW T_stateOf_ok ?_;simp only[go_sem];refine hK4 _ ?_;refine AWP_block ?_;refine AWP_loop_k (ι:={ i:Nat // i≤(Int.toNat rw) }) (fun k=>⟨[.c (.rd [] 26 (.row 2 (.int .i64)) (cc)),zz,zz,zz,zz,.c (.ow 9005),zz,zz,zz,zz,zz,zz,.c (.sc (.int .i64 (((Int.toNat rw):Nat)))),.c (.sc (.int .i64 (k.1))),zz,zz,zz,zz,zz,zz,zz,zz,zz,zz,zz,zz,zz,zz,zz,zz,zz,zz,zz,zz,zz,zz,zz,zz,zz,zz,zz,zz],[(9005,.tree 26 (.row 2 (.int .i64)) (rowsP cc (Int.toNat rw) k.1) none)]⟩) (fun k=>(Int.toNat rw) - k.1) ⟨0,by simp⟩ ?_ ?_
  ·
   refine oK ?_;simp (maxSteps:=2000000)only[go_sem];all_goals ((repeat' refine And.intro ?_ ?_)<;>first | rfl | (rw [rowsP_0]; done) | (congr 1; rw [rowsP_0]; done) | (congr 1; exact (rowsP_0 _ _).symm) | exact (rowsP_0 _ _).symm | (congr 1; done) | (simp; done))
  rintro ⟨i,hi⟩ K5 hL5
  have hpl:(rowsP cc (Int.toNat rw) i).length=(Int.toNat rw):=rowsP_len hi
  refine oS fun _ hK6=>?_;refine oW T_stateOf_ok ?_;simp only[go_sem];refine hK6 _ ?_;refine oS fun _ hK7=>?_;refine oC rfl ?_ ?_
  ·
   intro c0;refine AWP_skip ?_;simp only[go_sem];refine hK7 _ ?_;refine oS fun _ hK8=>?_;refine AWP_block ?_;refine oS fun _ hK9=>?_;refine oW T_stateOf_ok ?_;simp only[go_sem];refine hK9 _ ?_;refine oS fun _ hK10=>?_;refine oW T_stateOf_ok ?_;simp (maxSteps:=2000000)only[List.nodup_cons,List.nodup_nil,List.not_mem_nil,not_false_eq_true,hpl,go_sem];repeat (with_reducible refine oA ?_)
   refine hK10 _ ?_;refine oS fun _ hK11=>?_;refine oW T_stateOf_ok ?_;simp only[go_sem];refine hK11 _ ?_;refine AWP_block ?_;refine AWP_loop_k (ι:={ j:Nat // j≤cc.length }) (fun k'=>⟨[.c (.rd [] 26 (.row 2 (.int .i64)) (cc)),zz,zz,zz,zz,.c (.ow 9005),.c (.sc (.int .i64 (i))),zz,zz,zz,zz,zz,.c (.sc (.int .i64 (((Int.toNat rw):Nat)))),.c (.sc (.int .i64 (i))),zz,zz,zz,zz,zz,zz,.c (.rd [] 26 (.row 2 (.int .i64)) (cc)),.c (.sc (.int .i64 (cc.length))),.c (.sc (.int .i64 (k'.1))),zz,zz,zz,zz,zz,zz,zz,zz,zz,zz,zz,zz,zz,zz,zz,zz,zz,zz,zz],[(9005,.tree 26 (.row 2 (.int .i64)) (rowsQ cc (Int.toNat rw) i k'.1) none)]⟩) (fun k'=>cc.length - k'.1) ⟨0,by simp⟩ ?_ ?_
   ·
    refine oK ?_;simp (maxSteps:=2000000)only[go_sem];all_goals ((repeat' refine And.intro ?_ ?_)<;>first | rfl | exact rowsQ_0 | (congr 1; exact rowsQ_0) | (congr 1; done))
   rintro ⟨j,hj⟩ K12 hL12
   have hql:(rowsQ cc (Int.toNat rw) i j).length=(Int.toNat rw):=rowsQ_len (by omega)
   refine oS fun _ hK13=>?_;refine oW T_stateOf_ok ?_;simp only[go_sem];refine hK13 _ ?_;refine oS fun _ hK14=>?_;refine oC rfl ?_ ?_
   ·
    intro c1;have hqa:=rowsQ_at (cols:=cc) (rows:=(Int.toNat rw)) (i:=i) (j:=j) (by omega)
    have hcj:=hco j (by omega)
    have hnx:=rowsQ_next (cols:=cc) (rows:=(Int.toNat rw)) (i:=i) (j:=j) (by omega) (by omega)
    have hrl:(rowC (cc.take j) i).length≤1000:=by unfold rowC; rw [List.length_map,List.length_take]; omega
    refine AWP_skip ?_;simp only[go_sem];refine hK14 _ ?_;refine oS fun _ hK15=>?_;refine AWP_block ?_;refine oS fun _ hK16=>?_;refine oW T_stateOf_ok ?_;simp only[go_sem];repeat (with_reducible refine oA ?_)
    refine hK16 _ ?_
    refine oR T_stateOf_ok
      [[],[],[],[],[2,3],[2,3,4],[],[],[6,7],[6,7,8],[6,7,8,9],[2,3,4,5,6,7,8,9,10],[0,1,2,3,4,5,6,7,8,9,10,11],[0,1,2,3,4,5,6,7,8,9,10,11,12]]
      [[676,692,1009005],[676,692,1009005],[676],[676],[676],[676],[],[],[],[],[],[],[],[]]
      [[],[],[],[],[],[],[],[],[],[],[676],[676,692,1009005],[],[]] (by kernel_rfl) (by kernel_rfl) (adrawR_ok (acc:=[]) ?_)
    simp (maxSteps:=2000000)only[List.nodup_cons,List.nodup_nil,List.not_mem_nil,not_false_eq_true,hql,hqa,hcj,go_sem];repeat (with_reducible first | refine oD ?_ | refine And.intro (by first | omega) ?_)
    refine hK15 _ ?_;refine oW T_stateOf_ok ?_;simp only[go_sem];refine hL12 ⟨j+1,by omega⟩ _ (oK ?_) ?_
    ·
     simp (maxSteps:=2000000)only[go_sem];all_goals ((repeat' refine And.intro ?_ ?_)<;>first | rfl | exact wk (by omega) | exact hnx | (congr 1; exact hnx) | (congr 1; done))
    ·
     first | (simp only[]; omega) | omega | (simp; omega)
   intro c1;have hqe:=rowsQ_end (cols:=cc) (rows:=(Int.toNat rw)) (i:=i) (j:=j) (by omega) (by omega)
   refine AWP_exit ?_;simp only[go_sem];refine hK8 _ ?_;refine oW T_stateOf_ok ?_;simp only[go_sem];refine hL5 ⟨i+1,by omega⟩ _ (oK ?_) ?_
   ·
    simp (maxSteps:=2000000)only[go_sem];all_goals ((repeat' refine And.intro ?_ ?_)<;>first | rfl | exact wk (by omega) | exact hqe | (congr 1; exact hqe) | (congr 1; done))
   ·
    first | (simp only[]; omega) | omega | (simp; omega)
  intro c0;have hie:i=(Int.toNat rw):=by omega
  refine AWP_exit ?_;simp only[go_sem];refine hK3 _ ?_;refine oS fun _ hK17=>?_;refine oW T_stateOf_ok ?_;simp only[go_sem];refine hK17 _ ?_;refine AWP_ret ?_;simp only[hres,go_sem];first | exact oF | (refine ⟨?_,oF⟩; rw [hie,rowsP_all])
def T_colsRows:Tab:=fun f=>if f=79 then some (.p K_colsRows) else T_stateOf f
theorem T_colsRows_ok:TabOk Tryz.prog T_colsRows:=tabP colsRows_ok (fnOk_of Tryz.func79 rfl (by decide)) T_stateOf_ok
attribute [go_sem] T_colsRows K_colsRows
set_option maxRecDepth 100000
set_option maxHeartbeats 8000000
def K_output:Con:=⟨[.val ((.prod (.int .i64) (.prod (.int .i64) (.prod (.int .i64) (.row 2 (.int .i64)))))),.val ((.row 26 (.row 2 (.int .i64)))),.val ((.row 2 (.int .i64)))],[⟨.int .i64,true⟩],fun x=>(∃ s,stepC x.1 x.2.1 x.2.2.1 s)∧(x.1.1=1∨x.1.1=2∨x.1.1=3∨x.1.1=4∨x.1.1=5∨x.1.1=9∨x.1.1=10∨x.1.1=11∨x.1.1=13∨x.1.1=15),fun x=>outV x.1.1 x.1.2.1 x.2.1 x.2.2.1 []⟩
theorem output_ok:PureT Tryz.prog 142 K_output:=by
  refine pure_of_body Tryz.func142 rfl ?_
  have hres:Tryz.f142.results.toList=[.tmp 6]:=rfl
  rintro ⟨⟨(kd:Int),(a:Int),(bb:Int),(fr:List Int)⟩,(tb:List (List Int)),(ii:List Int),_⟩ hc hL
  simp only[K_output,go_sem] at hL
  simp only[K_output,St.init,St.initG,Tryz.ntmps142,go_sem] 
  obtain ⟨⟨ss,hS⟩,hK⟩:=(show (∃ s,stepC (kd,a,bb,fr) tb ii s)∧(kd=1∨kd=2∨kd=3∨kd=4∨kd=5∨kd=9∨kd=10∨kd=11∨kd=13∨kd=15) from hc)
  obtain ⟨h1,h2,h3,h4,h5,h6,h7,h8,h9,h10,h11,h12,h13⟩:=stepC_parts hS
  have hi0:=stepC_smp hS 0
  have hi1:=stepC_smp hS 1
  refine oS fun _ hK1=>?_;refine oW T_l07Map_ok ?_;simp only[go_sem];refine hK1 _ ?_;refine oS fun _ hK2=>?_;refine oS fun _ hK3=>?_;refine oW T_l07Map_ok ?_;simp only[go_sem];repeat (with_reducible refine oA ?_)
  refine hK3 _ ?_;refine AWP_block ?_;refine oS fun _ hK4=>?_;refine oW T_l07Map_ok ?_;simp only[go_sem];refine hK4 _ ?_;refine oC rfl ?_ ?_
  ·
   intro c0;refine oS fun _ hK5=>?_;refine oW T_l07Map_ok ?_;simp only[go_sem];repeat (with_reducible refine oA ?_)
   refine hK5 _ ?_;refine AWP_ret ?_;simp only[hres,go_sem];first | exact oF | (refine ⟨?_,oF⟩; first | (have e:kd=2:=(by assumption); subst e; rfl) | (rw [w32_wrap]; first | (have e:kd=2:=(by assumption); subst e; rfl)) | (have e:kd=1:=(by omega); subst e; rfl) | (have e:kd=15:=(by assumption); subst e; first | exact (outV_15t (by assumption)).symm | exact (outV_15f (by omega)).symm) | (exfalso; omega) | (have e:kd=11:=(by assumption); subst e; exact clip_eq (by omega)))
  intro c0;refine oS fun _ hK6=>?_;refine oW T_l07Map_ok ?_;simp only[go_sem];refine hK6 _ ?_;refine oC rfl ?_ ?_
  ·
   intro c1;refine oS fun _ hK7=>?_
   refine oR T_l07Map_ok
     [[],[0],[0,1],[],[3],[3,4],[0,1,2,3,4,5],[0,1,2,3,4,5,6],[0,1,2,3,4,5,6,7]]
     [[],[],[],[],[],[],[],[],[]]
     [[],[],[],[],[],[],[],[],[]] (by kernel_rfl) (by kernel_rfl) (adrawR_ok (acc:=[]) ?_)
   simp (maxSteps:=2000000)only[w32_wrap,go_sem];repeat (with_reducible refine oD ?_)
   refine hK7 _ ?_;refine AWP_ret ?_;simp only[hres,go_sem];first | exact oF | (refine ⟨?_,oF⟩; first | (have e:kd=3:=(by assumption); subst e; rfl) | (rw [w32_wrap]; first | (have e:kd=3:=(by assumption); subst e; rfl)) | (have e:kd=1:=(by omega); subst e; rfl) | (have e:kd=15:=(by assumption); subst e; first | exact (outV_15t (by assumption)).symm | exact (outV_15f (by omega)).symm) | (exfalso; omega) | (have e:kd=11:=(by assumption); subst e; exact clip_eq (by omega)))
  intro c1;refine oS fun _ hK8=>?_;refine oW T_l07Map_ok ?_;simp only[go_sem];refine hK8 _ ?_;refine oC rfl ?_ ?_
  ·
   intro c2;refine oS fun _ hK9=>?_
   refine oR T_l07Map_ok
     [[],[0],[0,1],[],[3],[3,4],[0,1,2,3,4,5],[0,1,2,3,4,5,6],[0,1,2,3,4,5,6,7]]
     [[],[],[],[],[],[],[],[],[]]
     [[],[],[],[],[],[],[],[],[]] (by kernel_rfl) (by kernel_rfl) (adrawR_ok (acc:=[]) ?_)
   simp (maxSteps:=2000000)only[w32_wrap,go_sem];repeat (with_reducible refine oD ?_)
   refine hK9 _ ?_;refine AWP_ret ?_;simp only[hres,go_sem];first | exact oF | (refine ⟨?_,oF⟩; first | (have e:kd=4:=(by assumption); subst e; rfl) | (rw [w32_wrap]; first | (have e:kd=4:=(by assumption); subst e; rfl)) | (have e:kd=1:=(by omega); subst e; rfl) | (have e:kd=15:=(by assumption); subst e; first | exact (outV_15t (by assumption)).symm | exact (outV_15f (by omega)).symm) | (exfalso; omega) | (have e:kd=11:=(by assumption); subst e; exact clip_eq (by omega)))
  intro c2;refine oS fun _ hK10=>?_;refine oW T_l07Map_ok ?_;simp only[go_sem];refine hK10 _ ?_;refine oC rfl ?_ ?_
  ·
   intro c3;refine oS fun _ hK11=>?_
   refine oR T_l07Map_ok
     [[],[0],[],[2],[2,3],[0,1,2,3,4],[0,1,2,3,4,5],[0,1,2,3,4,5,6]]
     [[],[],[],[],[],[],[],[]]
     [[],[],[],[],[],[],[],[]] (by kernel_rfl) (by kernel_rfl) (adrawR_ok (acc:=[]) ?_)
   simp (maxSteps:=2000000)only[w32_wrap,go_sem];repeat (with_reducible refine oD ?_)
   refine hK11 _ ?_;refine AWP_ret ?_;simp only[hres,go_sem];first | exact oF | (refine ⟨?_,oF⟩; first | (have e:kd=5:=(by assumption); subst e; rfl) | (rw [w32_wrap]; first | (have e:kd=5:=(by assumption); subst e; rfl)) | (have e:kd=1:=(by omega); subst e; rfl) | (have e:kd=15:=(by assumption); subst e; first | exact (outV_15t (by assumption)).symm | exact (outV_15f (by omega)).symm) | (exfalso; omega) | (have e:kd=11:=(by assumption); subst e; exact clip_eq (by omega)))
  intro c3;refine oS fun _ hK12=>?_;refine oW T_l07Map_ok ?_;simp only[go_sem];refine hK12 _ ?_;refine oC rfl ?_ ?_
  ·
   intro c4;refine oS fun _ hK13=>?_
   refine oR T_l07Map_ok
     [[],[0],[0,1],[],[3],[3,4],[0,1,2,3,4,5],[0,1,2,3,4,5,6],[0,1,2,3,4,5,6,7]]
     [[],[],[],[],[],[],[],[],[]]
     [[],[],[],[],[],[],[],[],[]] (by kernel_rfl) (by kernel_rfl) (adrawR_ok (acc:=[]) ?_)
   simp (maxSteps:=2000000)only[w32_wrap,go_sem];repeat (with_reducible refine oD ?_)
   refine hK13 _ ?_;refine AWP_ret ?_;simp only[hres,go_sem];first | exact oF | (refine ⟨?_,oF⟩; first | (have e:kd=9:=(by assumption); subst e; rfl) | (rw [w32_wrap]; first | (have e:kd=9:=(by assumption); subst e; rfl)) | (have e:kd=1:=(by omega); subst e; rfl) | (have e:kd=15:=(by assumption); subst e; first | exact (outV_15t (by assumption)).symm | exact (outV_15f (by omega)).symm) | (exfalso; omega) | (have e:kd=11:=(by assumption); subst e; exact clip_eq (by omega)))
  intro c4;refine oS fun _ hK14=>?_;refine oW T_l07Map_ok ?_;simp only[go_sem];refine hK14 _ ?_;refine oC rfl ?_ ?_
  ·
   intro c5;refine oS fun _ hK15=>?_;have hua:IntKind.u64.wrap a=a:=wrapU (by omega)
   refine oR T_l07Map_ok
     [[],[0],[0,1],[],[3],[3,4],[0,1,2,3,4,5],[0,1,2,3,4,5,6]]
     [[],[],[],[],[],[],[],[]]
     [[],[],[],[],[],[],[],[]] (by kernel_rfl) (by kernel_rfl) (adrawR_ok (acc:=[]) ?_)
   simp (maxSteps:=2000000)only[hua,go_sem];repeat (with_reducible refine oD ?_)
   refine hK15 _ ?_;refine AWP_ret ?_;simp only[hres,go_sem];first | exact oF | (refine ⟨?_,oF⟩; first | (have e:kd=10:=(by assumption); subst e; rfl) | (rw [w32_wrap]; first | (have e:kd=10:=(by assumption); subst e; rfl)) | (have e:kd=1:=(by omega); subst e; rfl) | (have e:kd=15:=(by assumption); subst e; first | exact (outV_15t (by assumption)).symm | exact (outV_15f (by omega)).symm) | (exfalso; omega) | (have e:kd=11:=(by assumption); subst e; exact clip_eq (by omega)))
  intro c5;refine oS fun _ hK16=>?_;refine oW T_l07Map_ok ?_;simp only[go_sem];refine hK16 _ ?_;refine oC rfl ?_ ?_
  ·
   intro c6;refine oS fun _ hK17=>?_;have hna:IntKind.i64.wrap (-a)=-a:=wrapI (by omega)
   refine oR T_l07Map_ok
     [[],[0],[0,1],[],[3],[],[5],[5,6],[3,4,5,6,7],[0,1,2,3,4,5,6,7,8],[0,1,2,3,4,5,6,7,8,9]]
     [[],[],[],[],[],[],[],[],[],[],[]]
     [[],[],[],[],[],[],[],[],[],[],[]] (by kernel_rfl) (by kernel_rfl) (adrawR_ok (acc:=[]) ?_)
   simp (maxSteps:=2000000)only[hna,go_sem];repeat (with_reducible refine oD ?_)
   refine hK17 _ ?_;refine AWP_ret ?_;simp only[hres,go_sem];first | exact oF | (refine ⟨?_,oF⟩; first | (have e:kd=11:=(by assumption); subst e; rfl) | (rw [w32_wrap]; first | (have e:kd=11:=(by assumption); subst e; rfl)) | (have e:kd=1:=(by omega); subst e; rfl) | (have e:kd=15:=(by assumption); subst e; first | exact (outV_15t (by assumption)).symm | exact (outV_15f (by omega)).symm) | (exfalso; omega) | (have e:kd=11:=(by assumption); subst e; exact clip_eq (by omega)))
  intro c6;refine oS fun _ hK18=>?_;refine oW T_l07Map_ok ?_;simp only[go_sem];refine hK18 _ ?_;refine oC rfl ?_ ?_
  ·
   intro c7;refine oS fun _ hK19=>?_;refine oW T_l07Map_ok ?_;simp (maxSteps:=2000000)only[go_sem];repeat (with_reducible refine oA ?_)
   refine hK19 _ ?_;refine oS fun _ hK20=>?_;obtain ⟨hl1,hl2,hl3,hl4⟩:=look_bd (t:=tb.getD a.toNat []) (x:=ii.getD 0 0) (by omega) (by omega)
   have hlw:IntKind.i64.wrap (((tb.getD a.toNat []).length:Int) * uns (ii.getD 0 0))=((tb.getD a.toNat []).length:Int) * uns (ii.getD 0 0):=wrapI (by omega)
   refine oR T_l07Map_ok
     [[],[],[1],[],[3],[3,4],[1,2,3,4,5],[1,2,3,4,5,6],[1,2,3,4,5,6,7],[0,1,2,3,4,5,6,7,8],[0,1,2,3,4,5,6,7,8,9],[0,1,2,3,4,5,6,7,8,9,10]]
     [[],[],[],[],[],[],[],[],[],[],[],[]]
     [[],[],[],[],[],[],[],[],[],[],[],[]] (by kernel_rfl) (by kernel_rfl) (adrawR_ok (acc:=[]) ?_)
   simp (maxSteps:=2000000)only[hlw,fdiv32',go_sem];repeat (with_reducible refine oD ?_)
   refine hK20 _ ?_;refine AWP_ret ?_;simp only[hres,go_sem];first | exact oF | (refine ⟨?_,oF⟩; first | (have e:kd=13:=(by assumption); subst e; rfl) | (rw [w32_wrap]; first | (have e:kd=13:=(by assumption); subst e; rfl)) | (have e:kd=1:=(by omega); subst e; rfl) | (have e:kd=15:=(by assumption); subst e; first | exact (outV_15t (by assumption)).symm | exact (outV_15f (by omega)).symm) | (exfalso; omega) | (have e:kd=11:=(by assumption); subst e; exact clip_eq (by omega)))
  intro c7;refine oS fun _ hK21=>?_;refine oW T_l07Map_ok ?_;simp only[go_sem];refine hK21 _ ?_;refine oC rfl ?_ ?_
  ·
   intro c8;refine oS fun _ hK22=>?_;refine oS fun _ hK23=>?_;refine oW T_l07Map_ok ?_;simp only[go_sem];repeat (with_reducible refine oA ?_)
   refine hK23 _ ?_;refine oC rfl ?_ ?_
   ·
    intro c9;refine oS fun _ hK24=>?_;refine oW T_l07Map_ok ?_;simp only[go_sem];repeat (with_reducible refine oA ?_)
    refine hK24 _ ?_;refine AWP_ret ?_;simp only[hres,go_sem];first | exact oF | (refine ⟨?_,oF⟩; first | (have e:kd=15:=(by assumption); subst e; rfl) | (rw [w32_wrap]; first | (have e:kd=15:=(by assumption); subst e; rfl)) | (have e:kd=1:=(by omega); subst e; rfl) | (have e:kd=15:=(by assumption); subst e; first | exact (outV_15t (by assumption)).symm | exact (outV_15f (by omega)).symm) | (exfalso; omega) | (have e:kd=11:=(by assumption); subst e; exact clip_eq (by omega)))
   intro c9;refine AWP_skip ?_;simp only[go_sem];refine hK22 _ ?_;refine oS fun _ hK25=>?_;refine oW T_l07Map_ok ?_;simp only[go_sem];repeat (with_reducible refine oA ?_)
   refine hK25 _ ?_;refine AWP_ret ?_;simp only[hres,go_sem];first | exact oF | (refine ⟨?_,oF⟩; first | (have e:kd=15:=(by assumption); subst e; rfl) | (rw [w32_wrap]; first | (have e:kd=15:=(by assumption); subst e; rfl)) | (have e:kd=1:=(by omega); subst e; rfl) | (have e:kd=15:=(by assumption); subst e; first | exact (outV_15t (by assumption)).symm | exact (outV_15f (by omega)).symm) | (exfalso; omega) | (have e:kd=11:=(by assumption); subst e; exact clip_eq (by omega)))
  intro c8;refine AWP_skip ?_;simp only[go_sem];refine hK2 _ ?_;refine oS fun _ hK26=>?_;refine oW T_l07Map_ok ?_;simp only[go_sem];repeat (with_reducible refine oA ?_)
  refine hK26 _ ?_;refine AWP_ret ?_;simp only[hres,go_sem];first | exact oF | (refine ⟨?_,oF⟩; first | (have e:kd=0:=(by assumption); subst e; rfl) | (rw [w32_wrap]; first | (have e:kd=0:=(by assumption); subst e; rfl)) | (have e:kd=1:=(by omega); subst e; rfl) | (have e:kd=15:=(by assumption); subst e; first | exact (outV_15t (by assumption)).symm | exact (outV_15f (by omega)).symm) | (exfalso; omega) | (have e:kd=11:=(by assumption); subst e; exact clip_eq (by omega)))
def T_output:Tab:=fun f=>if f=142 then some (.p K_output) else T_l07Map f
theorem T_output_ok:TabOk Tryz.prog T_output:=tabP output_ok (fnOk_of Tryz.func142 rfl (by decide)) T_l07Map_ok
attribute [go_sem] T_output K_output
end Go.Proofs.YtgmabhkmiokiaaaGreat
