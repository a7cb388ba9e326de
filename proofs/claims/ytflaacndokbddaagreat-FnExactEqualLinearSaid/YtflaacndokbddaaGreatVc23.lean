/-
  Texts of this claim, joined (part 23). No condition beyond those of the theorems.
-/
import Derived.Test.YtflaacndokbddaaGreatVc17
import Derived.Test.YtflaacndokbddaaGreatVc22
import Derived.Test.YtflaacndokbddaaGreatVc12
namespace Go.Proofs.YtflaacndokbddaaGreat
open Go.RowKit
set_option linter.unusedSimpArgs false
set_option linter.unusedVariables false
set_option maxRecDepth 100000
set_option maxHeartbeats 16000000
def T_mHm20:Tab:=fun f=>match T_l09Get f with
 | some k=>some k
 | none=>T_specStep f
theorem T_mHm20_ok:TabOk Tryz.prog T_mHm20:=tabM T_l09Get_ok T_specStep_ok
attribute [go_sem] T_mHm20 T0
def T_mHm21:Tab:=fun f=>match T_mHm20 f with
 | some k=>some k
 | none=>T_l07Ok f
theorem T_mHm21_ok:TabOk Tryz.prog T_mHm21:=tabM T_mHm20_ok T_l07Ok_ok
attribute [go_sem] T_mHm21 T0
def K_l09Set:GCon where
  ps:=[.ptr ((.prod (.int .i64) (.prod (.row 26 (.row 2 (.int .i64))) (.prod (.row 90 (.prod (.int .i64) (.prod (.int .i64) (.prod (.int .i64) (.row 2 (.int .i64)))))) (.row 2 (.int .i64)))))),.val ((.row 2 (.int .i64)))]
  os:=[]
  c:=fun x=>formedB x.1.1=true∧x.1.2.1.length=cellN x.1.1.2.2.1
  r:=fun _=>.agg [.ow 10]
  o:=fun x=>[(10,.tree 26 (.row 2 (.int .i64)) (setS x.1.1.2.2.1 x.1.2.1) none)]
  ok:=by
    rintro ⟨⟨⟨(pi:Int),(ts:List (List Int)),(ns:List NodeD),(os:List Int)⟩,(cs:List Int),_⟩,_⟩
    exact ⟨rfl,rfl,by decide⟩
theorem l09Set_ok:GenT Tryz.prog 216 K_l09Set:=by
  refine gen_of_body Tryz.func216 rfl ?_
  have hres:Tryz.f216.results.toList=[.cell 4 39]:=rfl
  rintro ⟨⟨⟨(pi:Int),(ts:List (List Int)),(ns:List NodeD),(os:List Int)⟩,(cs:List Int),_⟩,_⟩ hc hL hO
  simp only[K_l09Set,go_sem] at hL
  simp only[K_l09Set,go_sem] at hO
  simp only[K_l09Set,St.init,St.initG,Tryz.ntmps216,go_sem] 
  obtain ⟨hF,hcs⟩:=(show formedB (pi,ts,ns,os)=true∧cs.length=cellN ns from hc)
  have hn24:ns.length≤24:=(formedB_parts hF).1
  have hc384:cellN ns≤384:=cellN_384 (p:=(pi,ts,ns,os)) hF
  have hsl:(setS ns cs).length=ns.length:=setS_len _ _
  refine oS fun _ hK1=>?_
  refine oW T_mHm21_ok ?_
  simp only[go_sem]
  refine hK1 _ ?_
  refine oS fun _ hK2=>?_
  refine oW T_mHm21_ok ?_
  simp only[go_sem]
  repeat (with_reducible refine oA ?_)
  refine hK2 _ ?_
  refine oS fun _ hK3=>?_
  refine oW T_mHm21_ok ?_
  simp only[go_sem]
  refine hK3 _ ?_
  refine oS fun _ hK4=>?_
  refine oS fun _ hK5=>?_
  refine oW T_mHm21_ok ?_
  simp only[go_sem]
  refine hK5 _ ?_
  refine AWP_block ?_
  refine AWP_wk (Wk_nilBox _ 180 0 9001 26 ((.row 2 (.int .i64))) (by decide)) ?_
  simp (maxSteps:=2000000)only[go_sem]
  refine AWP_loop_k (ι:={ k:Nat // k≤ns.length }) (fun k=>⟨[.c (.pt [] ((.prod (.int .i64) (.prod (.row 26 (.row 2 (.int .i64))) (.prod (.row 90 (.prod (.int .i64) (.prod (.int .i64) (.prod (.int .i64) (.row 2 (.int .i64)))))) (.row 2 (.int .i64)))))) (pi,ts,ns,os) 0),.c (.rd [] 2 (.int .i64) (cs)),zz,zz,.c (.po 164 0),.c (.po 180 0),.c (.sc (.int .i64 (offN ns k.1))),.c (.sc (.int .i64 (k.1))),zz,zz,zz,zz,zz,zz,zz,zz,zz,zz,zz,zz,zz,zz,zz,zz,zz,zz,zz,zz,zz,zz,zz,zz,zz,zz,zz,zz,zz,zz,zz,zz,zz,zz,zz],[(164,.box [.sc (.slice none 0 0)]),(180,.box [.ow 9001]),(9001,.tree 26 (.row 2 (.int .i64)) ((setS ns cs).take k.1) none)]⟩) (fun k=>ns.length - k.1) ⟨0,by simp⟩ ?_ ?_
  ·
   refine oK ?_
   simp (maxSteps:=2000000)only[go_sem]
   all_goals (first | rfl | ((repeat' refine And.intro ?_ ?_)<;>first | rfl | simp))
  rintro ⟨k,hk⟩ K6 hL6
  have htk:(List.take k (setS ns cs)).length≤24:=by rw [List.length_take]; omega
  refine oS fun _ hK7=>?_
  refine oS fun _ hK8=>?_
  refine oW T_mHm21_ok ?_
  simp (maxSteps:=2000000)only[go_sem]
  repeat (with_reducible refine oA ?_)
  refine hK8 _ ?_
  refine oC rfl ?_ ?_
  ·
   intro c0
   have hnb:nodeB ((ns.getD k ((0,0,0,[]):NodeD)).1,(ns.getD k ((0,0,0,[]):NodeD)).2.1,(ns.getD k ((0,0,0,[]):NodeD)).2.2.1,(ns.getD k ((0,0,0,[]):NodeD)).2.2.2) 4=true:=nodeB_4 (p:=(pi,ts,ns,os)) hF (by show k < ns.length; omega)
   have hnx:offN ns (k+1)=offN ns k+(startV (ns.getD k ((0,0,0,[]):NodeD))).length:=offN_next (by omega)
   have hle:offN ns (k+1)≤cellN ns:=offN_le (by omega)
   have hw:IntKind.i64.wrap ((offN ns k:Int)+((startV (ns.getD k ((0,0,0,[]):NodeD))).length:Int))=(offN ns (k+1):Int):=by rw [wrapI (by omega)]; omega
   have hpt:=set_part (ns:=ns) (c:=cs) (k:=k) (lo:=offN ns k) (hi:=offN ns (k+1)) (by omega) rfl hnx
   have hpl:((cs.take (offN ns (k+1))).drop (offN ns k)).length≤1099511627776:=by rw [List.length_drop,List.length_take]; omega
   refine AWP_skip ?_
   simp only[go_sem]
   refine hK7 _ ?_
   refine oS fun _ hK9=>?_
   refine AWP_block ?_
   refine oS fun _ hK10=>?_
   refine oW T_mHm21_ok ?_
   simp (maxSteps:=2000000)only[go_sem]
   repeat (with_reducible first | refine oA ?_ | refine And.intro (by first | exact hnb) ?_)
   refine hK10 _ ?_
   refine oS fun _ hK11=>?_
   refine oR T_mHm21_ok
     [[],[0],[],[],[],[],[4,5],[2,3,4,5,6],[2,3,4,5,6,7],[2,3,4,5,6,7,8],[0,1,2,3,4,5,6,7,8,9],[0,1,2,3,4,5,6,7,8,9,10],[0,1,2,3,4,5,6,7,8,9,10,11]]
     [[660,661,662,663,664,665,666,667,668,669,670,671,672,673,674,675,676],[660,661,662,663,664,665,666,667,668,669,670,671,672,673,674,675,676],[],[],[],[],[],[],[],[],[],[],[]]
     [[],[],[],[],[],[],[],[],[660,661,662,663,664,665,666,667,668,669,670,671,672,673,674,675],[660,661,662,663,664,665,666,667,668,669,670,671,672,673,674,675,676],[],[],[]] (by kernel_rfl) (by kernel_rfl) (adrawR_ok (acc:=[]) ?_)
   simp (maxSteps:=2000000)only[List.nodup_cons,List.nodup_nil,List.not_mem_nil,not_false_eq_true,hw,hcs,go_sem]
   repeat (with_reducible first | refine oD ?_ | refine And.intro (by first | exact hpl | omega) ?_)
   refine hK11 _ ?_
   refine oW T_mHm21_ok ?_
   simp only[hw,go_sem]
   refine hK9 _ ?_
   refine oW T_mHm21_ok ?_
   simp only[go_sem]
   refine hL6 ⟨k+1,by omega⟩ _ (oK ?_) ?_
   ·
    simp (maxSteps:=2000000)only[go_sem]
    all_goals ((repeat' refine And.intro ?_ ?_)<;>first | rfl | exact wk (by omega) | exact hpt | (congr 1; exact hpt) | (congr 1; done))
   ·
    first | (simp only[]; omega) | omega | (simp; omega)
  intro c0
  have hke:(setS ns cs).take k=setS ns cs:=List.take_of_length_le (by omega)
  refine AWP_exit ?_
  simp only[go_sem]
  refine hK4 _ ?_
  refine oS fun _ hK12=>?_
  refine oW T_mHm21_ok ?_
  simp only[go_sem]
  repeat (with_reducible refine oA ?_)
  refine hK12 _ ?_
  refine AWP_ret ?_
  simp only[hres,go_sem]
  first | exact oG | (refine ⟨oG,?_⟩; (repeat' refine And.intro ?_ ?_)<;>first | rfl | (rw [hke]; done) | (congr 1; done))
def T_l09Set:Tab:=fun f=>if f=216 then some (.g K_l09Set) else T_mHm21 f
theorem T_l09Set_ok:TabOk Tryz.prog T_l09Set:=tabG l09Set_ok (fnOk_of Tryz.func216 rfl (by decide)) T_mHm21_ok
attribute [go_sem] T_l09Set K_l09Set
def K_l09Column:Con:=⟨[.ptr (.prod (.int .i64) (.prod (.row 26 (.row 2 (.int .i64))) (.prod (.row 90 (.prod (.int .i64) (.prod (.int .i64) (.prod (.int .i64) (.row 2 (.int .i64)))))) (.row 2 (.int .i64))))),.val ((.row 2 (.int .i64))),.val ((.row 2 (.int .i64)))],[⟨(.row 2 (.int .i64)),true⟩,⟨(.row 2 (.int .i64)),true⟩],fun x=>patchB x.1=true∧x.2.1.length=cellN x.1.2.2.1∧smps x.2.1=true∧(x.2.2.1.length:Int)=x.1.1∧smps x.2.2.1=true,fun x=>colM x.1 x.2.1 x.2.2.1⟩
theorem l09Column_ok:PureT Tryz.prog 189 K_l09Column:=by
  refine pure_of_body Tryz.func189 rfl ?_
  have hres:Tryz.f189.results.toList=[.tmp 6,.tmp 7]:=rfl
  rintro ⟨⟨(pi:Int),(ts:List (List Int)),(ns:List NodeD),(os:List Int)⟩,(cs:List Int),(ff:List Int),_⟩ hc hL
  simp only[K_l09Column,go_sem] at hL
  simp only[K_l09Column,St.init,St.initG,Tryz.ntmps189,go_sem] 
  obtain ⟨hP,hcl,hcs,hfl,hff⟩:=(show patchB (pi,ts,ns,os)=true∧cs.length=cellN ns∧smps cs=true∧(ff.length:Int)=pi∧smps ff=true from hc)
  have hF:=(patchB_parts hP).1
  have hst:=stepR_t (codeF_set (q:=(pi,ts,ns,os)) hP hcl hcs hfl hff)
  have hst:stepR (pi,ts,ns,os) (setS ns cs) ff=(outsL (pi,ts,ns,os) (valsL (pi,ts,ns,os) (setS ns cs) ff),nextL (pi,ts,ns,os) (setS ns cs) ff (valsL (pi,ts,ns,os) (setS ns cs) ff),0):=hst
  have hnl:(nextL (pi,ts,ns,os) (setS ns cs) ff (valsL (pi,ts,ns,os) (setS ns cs) ff)).flatten.length≤1000000:=by have h:=(colM_len hF hcl hcs hff).1; have h2:=cellN_384 hF; rw [show (nextL (pi,ts,ns,os) (setS ns cs) ff (valsL (pi,ts,ns,os) (setS ns cs) ff)).flatten.length=(colM (pi,ts,ns,os) cs ff).1.length from rfl,h]; omega
  have hfs:formedB (pi,ts,ns,os)=true∧cs.length=cellN ns:=⟨hF,hcl⟩
  refine oS fun _ hK1=>?_
  refine oW T_l09Set_ok ?_
  simp only[go_sem]
  refine hK1 _ ?_
  refine oS fun _ hK2=>?_
  refine oW T_l09Set_ok ?_
  simp (maxSteps:=2000000)only[List.nodup_cons,List.nodup_nil,List.not_mem_nil,not_false_eq_true,go_sem]
  repeat (with_reducible first | refine oA ?_ | refine And.intro (by first | exact hfs) ?_)
  refine hK2 _ ?_
  refine oS fun _ hK3=>?_
  refine oR T_l09Set_ok
    [[],[0],[0,1],[],[],[0,1,2,3,4],[0,1,2,3,4,5],[0,1,2,3,4,5,6],[0,1,2,3,4,5,6],[0,1,2,3,4,5,6],[],[0,1,2,3,4,5,6,7,10],[0,1,2,3,4,5,6,7,8,10,11],[0,1,2,3,4,5,6,7,8,9,10,11,12]]
    [[260],[260],[260],[260],[260],[260],[260],[260],[260],[260],[30,436,437,438,439,440,441,442,443,444,445,446,447,448,449,450,451],[],[],[]]
    [[],[],[],[],[],[30,436,437,438,439,440,441,442,443,444,445,446,447,448,449,450,451],[],[],[],[],[260],[],[260],[]] (by kernel_rfl) (by kernel_rfl) (adrawR_ok (acc:=[]) ?_)
  simp (maxSteps:=2000000)only[List.nodup_cons,List.nodup_nil,List.not_mem_nil,not_false_eq_true,hst,go_sem]
  repeat (with_reducible refine oD ?_)
  refine hK3 _ ?_
  refine oS fun _ hK4=>?_
  refine oW T_l09Set_ok ?_
  simp only[go_sem]
  repeat (with_reducible first | refine oA ?_ | refine And.intro (by first | exact hnl) ?_)
  refine hK4 _ ?_
  refine AWP_ret ?_
  simp only[hres,go_sem]
  first | exact oF | (refine ⟨?_,oF⟩; first | exact ⟨rfl,rfl⟩ | rfl)
def T_l09Column:Tab:=fun f=>if f=189 then some (.p K_l09Column) else T_l09Set f
theorem T_l09Column_ok:TabOk Tryz.prog T_l09Column:=tabP l09Column_ok (fnOk_of Tryz.func189 rfl (by decide)) T_l09Set_ok
attribute [go_sem] T_l09Column K_l09Column
def K_l09Linear:Con:=⟨[.ptr (.prod (.int .i64) (.prod (.row 26 (.row 2 (.int .i64))) (.prod (.row 90 (.prod (.int .i64) (.prod (.int .i64) (.prod (.int .i64) (.row 2 (.int .i64)))))) (.row 2 (.int .i64)))))],[⟨(.prod (.int .i64) (.prod (.row 26 (.row 2 (.int .i64))) (.prod (.row 26 (.row 2 (.int .i64))) (.prod (.row 26 (.row 2 (.int .i64))) (.row 26 (.row 2 (.int .i64))))))),true⟩],fun x=>patchB x.1=true,fun x=>linM x.1⟩
theorem l09Linear_ok:PureT Tryz.prog 128 K_l09Linear:=by
  refine pure_of_body Tryz.func128 rfl ?_
  have hres:Tryz.f128.results.toList=[.cell 2 55]:=rfl
  rintro ⟨⟨(pi:Int),(ts:List (List Int)),(ns:List NodeD),(os:List Int)⟩,_⟩ hc hL
  simp only[K_l09Linear,go_sem] at hL
  obtain ⟨⟨lts,lts2⟩,⟨lns,lns2⟩,los⟩:=hL
  simp only[K_l09Linear,St.init,St.initG,Tryz.ntmps128,go_sem] 
  have hP:patchB (pi,ts,ns,os)=true:=hc
  have hF:=(patchB_parts hP).1
  have ho4:os.length≤4:=(formedB_parts hF).2.1
  have hpi:0≤pi∧pi≤4:=⟨(formedB_parts hF).2.2.2.1,(formedB_parts hF).2.2.2.2.1⟩
  have hpn:(((Int.toNat pi):Nat):Int)=pi:=Int.toNat_of_nonneg hpi.1
  have hc384:cellN ns≤384:=cellN_384 (p:=(pi,ts,ns,os)) hF
  have hcr:inR (cellN ns:Int) 0 1099511627776=true:=inR_t (by omega) (by omega)
  have hpr:inR pi 0 1099511627776=true:=inR_t (by omega) (by omega)
  have hcr6:inR (cellN ns:Int) 0 1000000=true:=inR_t (by omega) (by omega)
  have hwt:IntKind.i64.wrap ((cellN ns:Int)+pi)=(cellN ns:Int)+pi:=wrapI (by omega)
  refine oS fun _ hK1=>?_
  refine oW T_l09Column_ok ?_
  simp only[go_sem]
  repeat (with_reducible first | refine oA ?_ | refine And.intro (by first | exact hF | exact hcr | exact hpr | omega) ?_)
  refine hK1 _ ?_
  refine oS fun _ hK2=>?_
  refine oW T_l09Column_ok ?_
  simp only[go_sem]
  repeat (with_reducible first | refine oA ?_ | refine And.intro (by first | exact hF | exact hcr | exact hpr | omega) ?_)
  refine hK2 _ ?_
  refine oS fun _ hK3=>?_
  refine oW T_l09Column_ok ?_
  simp (maxSteps:=2000000)only[go_sem]
  repeat (with_reducible first | refine oA ?_ | refine And.intro (by first | exact hF | exact hcr | exact hpr | omega) ?_)
  refine hK3 _ ?_
  refine oS fun _ hK4=>?_
  refine oW T_l09Column_ok ?_
  simp (maxSteps:=2000000)only[go_sem]
  repeat (with_reducible first | refine oA ?_ | refine And.intro (by first | exact hF | exact hcr | exact hpr | omega) ?_)
  refine hK4 _ ?_
  refine oS fun _ hK5=>?_
  refine oS fun _ hK6=>?_
  refine oW T_l09Column_ok ?_
  simp only[go_sem]
  repeat (with_reducible first | refine oA ?_ | refine And.intro (by first | exact hF | exact hcr | exact hpr | omega) ?_)
  refine hK6 _ ?_
  refine AWP_block ?_
  refine AWP_wk (Wk_nilBox _ 180 1 9001 26 ((.row 2 (.int .i64))) (by decide)) ?_
  simp (maxSteps:=2000000)only[go_sem]
  refine AWP_wk (Wk_nilBox _ 180 2 9002 26 ((.row 2 (.int .i64))) (by decide)) ?_
  simp (maxSteps:=2000000)only[go_sem]
  refine AWP_loop_k (ι:={ k:Nat // k≤cellN ns }) (fun k=>⟨(.c (.pt [] ((.prod (.int .i64) (.prod (.row 26 (.row 2 (.int .i64))) (.prod (.row 90 (.prod (.int .i64) (.prod (.int .i64) (.prod (.int .i64) (.row 2 (.int .i64)))))) (.row 2 (.int .i64)))))) (pi,ts,ns,os) 0) :: zz :: .c (.po 132 0) :: .c (.sc (.int .i64 (cellN ns))) :: .c (.sc (.int .i64 (os.length))) :: .c (.po 180 0) :: .c (.sc (.int .i64 (k.1))) :: zz :: zz :: zz :: zz :: zz :: zz :: zz :: zz :: zz :: zz :: zz :: zz :: zz :: zz :: zz :: zz :: zz :: zz :: zz :: zz :: zz :: zz :: zz :: zz :: zz :: zz :: zz :: zz :: zz :: zz :: zz :: zz :: zz :: zz :: zz :: zz :: zz :: zz :: zz :: zz :: zz :: zz :: zz :: zz :: zz :: zz :: zz :: zz :: zz :: zz :: zz :: zz :: zz :: zz :: zz :: zz :: zz :: zz :: zz :: zz :: zz :: zz :: zz :: zz :: zz :: zz :: zz :: zz :: zz :: zz :: zz :: zz :: zz :: zz :: zz :: zz :: zz :: zz :: zz :: zz :: zz :: zz :: zz :: zz :: zz :: zz :: zz :: zz :: zz :: zz :: zz :: zz :: zz :: zz :: zz :: zz :: zz :: zz :: zz :: zz :: zz :: zz :: zz :: zz :: zz :: zz :: zz :: zz :: zz :: zz :: zz :: zz :: zz :: zz :: zz :: zz :: zz :: zz :: zz :: zz :: zz :: zz :: zz :: zz :: zz :: zz :: zz :: zz :: zz :: zz :: zz :: zz :: zz :: zz :: zz :: zz :: zz :: zz :: zz :: zz :: zz :: zz :: zz :: zz :: zz :: zz :: zz :: zz :: zz :: zz :: zz :: zz :: zz :: zz :: zz :: zz :: zz :: []),[(132,.box [.sc (.int .i64 (0)),.sc (.slice none 0 0),.sc (.slice none 0 0),.sc (.slice none 0 0),.sc (.slice none 0 0)]),(180,.box [.sc (.int .i64 (pi)),.ow 9001,.ow 9002,.sc (.slice none 0 0),.sc (.slice none 0 0)]),(9001,.tree 26 (.row 2 (.int .i64)) (List.replicate k.1 (List.replicate (cellN ns) 0)) none),(9002,.tree 26 (.row 2 (.int .i64)) (List.replicate k.1 (List.replicate (Int.toNat pi) 0)) none)]⟩) (fun k=>cellN ns - k.1) ⟨0,by simp⟩ ?_ ?_
  ·
   refine oK ?_
   simp (maxSteps:=2000000)only[go_sem]
   all_goals (first | rfl | ((repeat' refine And.intro ?_ ?_)<;>first | rfl | simp))
  rintro ⟨k,hk⟩ K7 hL7
  refine oS fun _ hK8=>?_
  refine oS fun _ hK9=>?_
  refine oW T_l09Column_ok ?_
  simp only[go_sem]
  repeat (with_reducible first | refine oA ?_ | refine And.intro (by first | exact hF | exact hcr | exact hpr | omega) ?_)
  refine hK9 _ ?_
  refine oC rfl ?_ ?_
  ·
   intro c0
   refine AWP_skip ?_
   simp only[go_sem]
   refine hK8 _ ?_
   refine oS fun _ hK10=>?_
   refine AWP_block ?_
   refine oS fun _ hK11=>?_
   refine oR T_l09Column_ok
     [[],[0],[],[2],[2,3],[0,1,2,3,4],[0,1,2,3,4,5],[0,1,2,3,4,5,6]]
     [[628,629,630,631,632,633,634,635,636,637,638,639,640,641,642,643,644],[628,629,630,631,632,633,634,635,636,637,638,639,640,641,642,643,644],[],[],[],[],[],[]]
     [[],[],[],[628,629,630,631,632,633,634,635,636,637,638,639,640,641,642,643],[628,629,630,631,632,633,634,635,636,637,638,639,640,641,642,643,644],[],[],[]] (by kernel_rfl) (by kernel_rfl) (adrawR_ok (acc:=[]) ?_)
   simp (maxSteps:=2000000)only[List.nodup_cons,List.nodup_nil,List.not_mem_nil,not_false_eq_true,List.length_replicate,Int.toNat_natCast,go_sem]
   repeat (with_reducible first | refine oD ?_ | refine And.intro (by first | exact hF | exact hcr | exact hpr | omega) ?_)
   refine hK11 _ ?_
   refine oR T_l09Column_ok
     [[],[0],[],[2],[2,3],[2,3,4],[2,3,4,5],[2,3,4,5,6],[0,1,2,3,4,5,6,7],[0,1,2,3,4,5,6,7,8],[0,1,2,3,4,5,6,7,8,9]]
     [[788,789,790,791,792,793,794,795,796,797,798,799,800,801,802,803,804],[788,789,790,791,792,793,794,795,796,797,798,799,800,801,802,803,804],[],[],[],[],[],[],[],[],[]]
     [[],[],[],[],[],[],[788,789,790,791,792,793,794,795,796,797,798,799,800,801,802,803],[788,789,790,791,792,793,794,795,796,797,798,799,800,801,802,803,804],[],[],[]] (by kernel_rfl) (by kernel_rfl) (adrawR_ok (acc:=[]) ?_)
   simp (maxSteps:=2000000)only[List.nodup_cons,List.nodup_nil,List.not_mem_nil,not_false_eq_true,List.length_replicate,Int.toNat_natCast,go_sem]
   repeat (with_reducible first | refine oD ?_ | refine And.intro (by first | exact hF | exact hcr | exact hpr | omega) ?_)
   refine hK10 _ ?_
   refine oW T_l09Column_ok ?_
   simp only[go_sem]
   repeat (with_reducible first | refine oA ?_ | refine And.intro (by first | exact hF | exact hcr | exact hpr | omega) ?_)
   refine hL7 ⟨k+1,by omega⟩ _ (oK ?_) ?_
   ·
    simp (maxSteps:=2000000)only[go_sem]
    all_goals ((repeat' refine And.intro ?_ ?_)<;>first | rfl | exact wk (by omega) | exact wkj (by omega) | (congr 1; exact rep_next _ _) | exact rep_next _ _ | (congr 1; done))
   ·
    first | (simp only[]; omega) | omega | (simp; omega)
  intro c0
  have hke:k=cellN ns:=by omega
  refine AWP_exit ?_
  simp only[go_sem]
  refine hK5 _ ?_
  refine oS fun _ hK12=>?_
  refine oS fun _ hK13=>?_
  refine oW T_l09Column_ok ?_
  simp only[go_sem]
  repeat (with_reducible first | refine oA ?_ | refine And.intro (by first | exact hF | exact hcr | exact hpr | omega) ?_)
  refine hK13 _ ?_
  refine AWP_block ?_
  refine AWP_wk (Wk_nilBox _ 180 3 9003 26 ((.row 2 (.int .i64))) (by decide)) ?_
  simp (maxSteps:=2000000)only[go_sem]
  refine AWP_wk (Wk_nilBox _ 180 4 9004 26 ((.row 2 (.int .i64))) (by decide)) ?_
  simp (maxSteps:=2000000)only[go_sem]
  refine AWP_loop_k (ι:={ k:Nat // k≤os.length }) (fun k=>⟨(.c (.pt [] ((.prod (.int .i64) (.prod (.row 26 (.row 2 (.int .i64))) (.prod (.row 90 (.prod (.int .i64) (.prod (.int .i64) (.prod (.int .i64) (.row 2 (.int .i64)))))) (.row 2 (.int .i64)))))) (pi,ts,ns,os) 0) :: zz :: .c (.po 132 0) :: .c (.sc (.int .i64 (cellN ns))) :: .c (.sc (.int .i64 (os.length))) :: .c (.po 180 0) :: zz :: .c (.sc (.int .i64 (k.1))) :: zz :: zz :: zz :: zz :: zz :: zz :: zz :: zz :: zz :: zz :: zz :: zz :: zz :: zz :: zz :: zz :: zz :: zz :: zz :: zz :: zz :: zz :: zz :: zz :: zz :: zz :: zz :: zz :: zz :: zz :: zz :: zz :: zz :: zz :: zz :: zz :: zz :: zz :: zz :: zz :: zz :: zz :: zz :: zz :: zz :: zz :: zz :: zz :: zz :: zz :: zz :: zz :: zz :: zz :: zz :: zz :: zz :: zz :: zz :: zz :: zz :: zz :: zz :: zz :: zz :: zz :: zz :: zz :: zz :: zz :: zz :: zz :: zz :: zz :: zz :: zz :: zz :: zz :: zz :: zz :: zz :: zz :: zz :: zz :: zz :: zz :: zz :: zz :: zz :: zz :: zz :: zz :: zz :: zz :: zz :: zz :: zz :: zz :: zz :: zz :: zz :: zz :: zz :: zz :: zz :: zz :: zz :: zz :: zz :: zz :: zz :: zz :: zz :: zz :: zz :: zz :: zz :: zz :: zz :: zz :: zz :: zz :: zz :: zz :: zz :: zz :: zz :: zz :: zz :: zz :: zz :: zz :: zz :: zz :: zz :: zz :: zz :: zz :: zz :: zz :: zz :: zz :: zz :: zz :: zz :: zz :: zz :: zz :: zz :: zz :: zz :: zz :: zz :: zz :: zz :: zz :: []),[(132,.box [.sc (.int .i64 (0)),.sc (.slice none 0 0),.sc (.slice none 0 0),.sc (.slice none 0 0),.sc (.slice none 0 0)]),(180,.box [.sc (.int .i64 (pi)),.ow 9001,.ow 9002,.ow 9003,.ow 9004]),(9001,.tree 26 (.row 2 (.int .i64)) (List.replicate (cellN ns) (List.replicate (cellN ns) 0)) none),(9002,.tree 26 (.row 2 (.int .i64)) (List.replicate (cellN ns) (List.replicate (Int.toNat pi) 0)) none),(9003,.tree 26 (.row 2 (.int .i64)) (List.replicate k.1 (List.replicate (cellN ns) 0)) none),(9004,.tree 26 (.row 2 (.int .i64)) (List.replicate k.1 (List.replicate (Int.toNat pi) 0)) none)]⟩) (fun k=>os.length - k.1) ⟨0,by simp⟩ ?_ ?_
  ·
   refine oK ?_
   simp (maxSteps:=2000000)only[go_sem]
   all_goals ((repeat' refine And.intro ?_ ?_)<;>first | rfl | (rw [hke]; done) | (congr 1; rw [hke]; done) | (congr 1; done))
  rintro ⟨k1,hk1⟩ K14 hL14
  refine oS fun _ hK15=>?_
  refine oS fun _ hK16=>?_
  refine oW T_l09Column_ok ?_
  simp only[go_sem]
  repeat (with_reducible first | refine oA ?_ | refine And.intro (by first | exact hF | exact hcr | exact hpr | omega) ?_)
  refine hK16 _ ?_
  refine oC rfl ?_ ?_
  ·
   intro c1
   refine AWP_skip ?_
   simp only[go_sem]
   refine hK15 _ ?_
   refine oS fun _ hK17=>?_
   refine AWP_block ?_
   refine oS fun _ hK18=>?_
   refine oR T_l09Column_ok
     [[],[0],[],[2],[2,3],[0,1,2,3,4],[0,1,2,3,4,5],[0,1,2,3,4,5,6]]
     [[980,981,982,983,984,985,986,987,988,989,990,991,992,993,994,995,996],[980,981,982,983,984,985,986,987,988,989,990,991,992,993,994,995,996],[],[],[],[],[],[]]
     [[],[],[],[980,981,982,983,984,985,986,987,988,989,990,991,992,993,994,995],[980,981,982,983,984,985,986,987,988,989,990,991,992,993,994,995,996],[],[],[]] (by kernel_rfl) (by kernel_rfl) (adrawR_ok (acc:=[]) ?_)
   simp (maxSteps:=2000000)only[List.nodup_cons,List.nodup_nil,List.not_mem_nil,not_false_eq_true,List.length_replicate,Int.toNat_natCast,go_sem]
   repeat (with_reducible first | refine oD ?_ | refine And.intro (by first | exact hF | exact hcr | exact hpr | omega) ?_)
   refine hK18 _ ?_
   refine oR T_l09Column_ok
     [[],[0],[],[2],[2,3],[2,3,4],[2,3,4,5],[2,3,4,5,6],[0,1,2,3,4,5,6,7],[0,1,2,3,4,5,6,7,8],[0,1,2,3,4,5,6,7,8,9]]
     [[1140,1141,1142,1143,1144,1145,1146,1147,1148,1149,1150,1151,1152,1153,1154,1155,1156],[1140,1141,1142,1143,1144,1145,1146,1147,1148,1149,1150,1151,1152,1153,1154,1155,1156],[],[],[],[],[],[],[],[],[]]
     [[],[],[],[],[],[],[1140,1141,1142,1143,1144,1145,1146,1147,1148,1149,1150,1151,1152,1153,1154,1155],[1140,1141,1142,1143,1144,1145,1146,1147,1148,1149,1150,1151,1152,1153,1154,1155,1156],[],[],[]] (by kernel_rfl) (by kernel_rfl) (adrawR_ok (acc:=[]) ?_)
   simp (maxSteps:=2000000)only[List.nodup_cons,List.nodup_nil,List.not_mem_nil,not_false_eq_true,List.length_replicate,Int.toNat_natCast,go_sem]
   repeat (with_reducible first | refine oD ?_ | refine And.intro (by first | exact hF | exact hcr | exact hpr | omega) ?_)
   refine hK17 _ ?_
   refine oW T_l09Column_ok ?_
   simp only[go_sem]
   repeat (with_reducible first | refine oA ?_ | refine And.intro (by first | exact hF | exact hcr | exact hpr | omega) ?_)
   refine hL14 ⟨k1+1,by omega⟩ _ (oK ?_) ?_
   ·
    simp (maxSteps:=2000000)only[go_sem]
    all_goals ((repeat' refine And.intro ?_ ?_)<;>first | rfl | exact wk (by omega) | exact wkj (by omega) | (congr 1; exact rep_next _ _) | exact rep_next _ _ | (congr 1; done))
   ·
    first | (simp only[]; omega) | omega | (simp; omega)
  intro c1
  have hke1:k1=os.length:=by omega
  refine AWP_exit ?_
  simp only[go_sem]
  refine hK12 _ ?_
  refine oS fun _ hK19=>?_
  refine oS fun _ hK20=>?_
  refine oW T_l09Column_ok ?_
  simp only[go_sem]
  repeat (with_reducible first | refine oA ?_ | refine And.intro (by first | exact hF | exact hcr | exact hpr | omega) ?_)
  refine hK20 _ ?_
  refine AWP_block ?_
  refine AWP_loop_k (ι:={ j:Nat // j≤cellN ns+(Int.toNat pi) }) (fun k=>⟨(.c (.pt [] ((.prod (.int .i64) (.prod (.row 26 (.row 2 (.int .i64))) (.prod (.row 90 (.prod (.int .i64) (.prod (.int .i64) (.prod (.int .i64) (.row 2 (.int .i64)))))) (.row 2 (.int .i64)))))) (pi,ts,ns,os) 0) :: zz :: .c (.po 132 0) :: .c (.sc (.int .i64 (cellN ns))) :: .c (.sc (.int .i64 (os.length))) :: .c (.po 180 0) :: zz :: zz :: .c (.sc (.int .i64 (k.1))) :: zz :: zz :: zz :: zz :: zz :: zz :: zz :: zz :: zz :: zz :: zz :: zz :: zz :: zz :: zz :: zz :: zz :: zz :: zz :: zz :: zz :: zz :: zz :: zz :: zz :: zz :: zz :: zz :: zz :: zz :: zz :: zz :: zz :: zz :: zz :: zz :: zz :: zz :: zz :: zz :: zz :: zz :: zz :: zz :: zz :: zz :: zz :: zz :: zz :: zz :: zz :: zz :: zz :: zz :: zz :: zz :: zz :: zz :: zz :: zz :: zz :: zz :: zz :: zz :: zz :: zz :: zz :: zz :: zz :: zz :: zz :: zz :: zz :: zz :: zz :: zz :: zz :: zz :: zz :: zz :: zz :: zz :: zz :: zz :: zz :: zz :: zz :: zz :: zz :: zz :: zz :: zz :: zz :: zz :: zz :: zz :: zz :: zz :: zz :: zz :: zz :: zz :: zz :: zz :: zz :: zz :: zz :: zz :: zz :: zz :: zz :: zz :: zz :: zz :: zz :: zz :: zz :: zz :: zz :: zz :: zz :: zz :: zz :: zz :: zz :: zz :: zz :: zz :: zz :: zz :: zz :: zz :: zz :: zz :: zz :: zz :: zz :: zz :: zz :: zz :: zz :: zz :: zz :: zz :: zz :: zz :: zz :: zz :: zz :: zz :: zz :: zz :: zz :: zz :: zz :: []),[(132,.box [.sc (.int .i64 (0)),.sc (.slice none 0 0),.sc (.slice none 0 0),.sc (.slice none 0 0),.sc (.slice none 0 0)]),(180,.box [.sc (.int .i64 (pi)),.ow 9001,.ow 9002,.ow 9003,.ow 9004]),(9001,.tree 26 (.row 2 (.int .i64)) (m1M (pi,ts,ns,os) k.1 0) none),(9002,.tree 26 (.row 2 (.int .i64)) (m2M (pi,ts,ns,os) k.1 0) none),(9003,.tree 26 (.row 2 (.int .i64)) (m3M (pi,ts,ns,os) k.1 0) none),(9004,.tree 26 (.row 2 (.int .i64)) (m4M (pi,ts,ns,os) k.1 0) none)]⟩) (fun k=>cellN ns+(Int.toNat pi) - k.1) ⟨0,by simp⟩ ?_ ?_
  ·
   refine oK ?_
   simp (maxSteps:=2000000)only[go_sem]
   all_goals ((repeat' refine And.intro ?_ ?_)<;>first | rfl | exact m1M_0 (q:=(pi,ts,ns,os)) | exact m2M_0 (q:=(pi,ts,ns,os)) | (rw [hke1]; exact m3M_0 (q:=(pi,ts,ns,os))) | (rw [hke1]; exact m4M_0 (q:=(pi,ts,ns,os))) | (congr 1; exact m1M_0 (q:=(pi,ts,ns,os))) | (congr 1; exact m2M_0 (q:=(pi,ts,ns,os))) | (congr 1; rw [hke1]; exact m3M_0 (q:=(pi,ts,ns,os))) | (congr 1; rw [hke1]; exact m4M_0 (q:=(pi,ts,ns,os))) | (congr 1; done))
  rintro ⟨j,hj⟩ K21 hL21
  refine oS fun _ hK22=>?_
  refine oS fun _ hK23=>?_
  refine oW T_l09Column_ok ?_
  simp (maxSteps:=2000000)only[hwt,go_sem]
  repeat (with_reducible first | refine oA ?_ | refine And.intro (by first | exact hF | exact hcr | exact hpr | omega) ?_)
  refine hK23 _ ?_
  refine oC rfl ?_ ?_
  ·
   intro c2
   have hjl:j < cellN ns+(Int.toNat pi):=by omega
   rcases hcq0:colQ (pi,ts,ns,os) j with ⟨v1,v2⟩
   have hcq:colM (pi,ts,ns,os) (unitL (cellN ns) j) (unitL (Int.toNat pi) (Int.toNat (backI (j:Int) (cellN ns:Int) pi)))=(v1,v2):=hcq0
   have hbk:=backI_nn (a:=(j:Int)) (b:=(cellN ns:Int)) hpi.1
   have hj0:(0:Int)≤(j:Int):=by omega
   have hjr:inR (j:Int) 0 1000000=true:=inR_t (by omega) (by omega)
   have hcc:patchB (pi,ts,ns,os)=true∧(unitL (cellN ns) j).length=cellN ns∧smps (unitL (cellN ns) j)=true∧((unitL (Int.toNat pi) (Int.toNat (backI (j:Int) (cellN ns:Int) pi))).length:Int)=pi∧smps (unitL (Int.toNat pi) (Int.toNat (backI (j:Int) (cellN ns:Int) pi)))=true:=⟨hP,(unitL_ok _ _).1,(unitL_ok _ _).2,by rw [(unitL_ok _ _).1]; exact hpn,(unitL_ok _ _).2⟩
   have hvl:=colQ_len hF j
   rw [hcq0] at hvl
   have hv1:v1.length=cellN ns:=hvl.1
   have hv2:v2.length=os.length:=hvl.2
   have hwj:IntKind.i64.wrap ((j:Int) - (cellN ns:Int))=(j:Int) - (cellN ns:Int):=wrapI (by omega)
   refine AWP_skip ?_
   simp only[go_sem]
   refine hK22 _ ?_
   refine oS fun _ hK24=>?_
   refine AWP_block ?_
   refine oS fun _ hK25=>?_
   refine oR T_l09Column_ok
     [[],[],[],[1,2],[],[4],[4,5],[4,5,6],[],[],[],[10],[10,11],[10,11,12],[1,2,3,8,9,10,11,12,13],[1,2,3,4,5,6,7,8,9,10,11,12,13,14],[0,1,2,3,4,5,6,7,8,9,10,11,12,13,14,15],[0,1,2,3,4,5,6,7,8,9,10,11,12,13,14,15,16],[0,1,2,3,4,5,6,7,8,9,10,11,12,13,14,15,16,17],[0,1,2,3,4,5,6,7,8,9,10,11,12,13,14,15,16,17],[0,1,2,3,4,5,6,7,8,9,10,11,12,13,14,15,16,17,18],[0,1,2,3,4,5,6,7,8,9,10,11,12,13,14,15,16,17,18,19,20]]
     [[1428,1429,1430,1431,1432,1433,1434,1435,1436,1437,1438,1439,1440,1441,1442,1443,1620,1621,1622,1623,1624,1625,1626,1627,1628,1629,1630,1631,1632,1633,1634,1635],[],[],[],[1428,1429,1430,1431,1432,1433,1434,1435,1436,1437,1438,1439,1440,1441,1442,1443],[1428,1429,1430,1431,1432,1433,1434,1435,1436,1437,1438,1439,1440,1441,1442,1443],[1428,1429,1430,1431,1432,1433,1434,1435,1436,1437,1438,1439,1440,1441,1442,1443],[1428,1429,1430,1431,1432,1433,1434,1435,1436,1437,1438,1439,1440,1441,1442,1443],[1428,1429,1430,1431,1432,1433,1434,1435,1436,1437,1438,1439,1440,1441,1442,1443],[1428,1429,1430,1431,1432,1433,1434,1435,1436,1437,1438,1439,1440,1441,1442,1443],[1428,1429,1430,1431,1432,1433,1434,1435,1436,1437,1438,1439,1440,1441,1442,1443],[1428,1429,1430,1431,1432,1433,1434,1435,1436,1437,1438,1439,1440,1441,1442,1443],[1428,1429,1430,1431,1432,1433,1434,1435,1436,1437,1438,1439,1440,1441,1442,1443],[1428,1429,1430,1431,1432,1433,1434,1435,1436,1437,1438,1439,1440,1441,1442,1443],[],[],[],[],[],[],[],[]]
     [[],[],[],[1428,1429,1430,1431,1432,1433,1434,1435,1436,1437,1438,1439,1440,1441,1442,1443],[],[],[],[],[],[],[],[],[],[],[],[1620,1621,1622,1623,1624,1625,1626,1627,1628,1629,1630,1631,1632,1633,1634,1635],[],[],[],[],[],[]] (by kernel_rfl) (by kernel_rfl) (adrawR_ok (acc:=[]) ?_)
   simp (maxSteps:=2000000)only[Int.toNat_natCast,hcq,go_sem]
   repeat (with_reducible first | refine oD ?_ | refine And.intro (by first | exact ⟨hcr,hj0⟩ | exact ⟨hjr,hcr6⟩ | exact ⟨hpr,hbk⟩ | exact hcc) ?_)
   refine hK25 _ ?_
   refine oS fun _ hK26=>?_
   refine oS fun _ hK27=>?_
   refine oW T_l09Column_ok ?_
   simp only[go_sem]
   repeat (with_reducible first | refine oA ?_ | refine And.intro (by first | exact hF | exact hcr | exact hpr | omega) ?_)
   refine hK27 _ ?_
   refine AWP_block ?_
   refine AWP_loop_k (ι:={ i:Nat // i≤cellN ns }) (fun k'=>⟨(.c (.pt [] ((.prod (.int .i64) (.prod (.row 26 (.row 2 (.int .i64))) (.prod (.row 90 (.prod (.int .i64) (.prod (.int .i64) (.prod (.int .i64) (.row 2 (.int .i64)))))) (.row 2 (.int .i64)))))) (pi,ts,ns,os) 0) :: zz :: .c (.po 132 0) :: .c (.sc (.int .i64 (cellN ns))) :: .c (.sc (.int .i64 (os.length))) :: .c (.po 180 0) :: zz :: zz :: .c (.sc (.int .i64 (j))) :: .c (.ow 9005) :: .c (.ow 9006) :: .c (.sc (.int .i64 (k'.1))) :: zz :: zz :: zz :: zz :: zz :: zz :: zz :: zz :: zz :: zz :: zz :: zz :: zz :: zz :: zz :: zz :: zz :: zz :: zz :: zz :: zz :: zz :: zz :: zz :: zz :: zz :: zz :: zz :: zz :: zz :: zz :: zz :: zz :: zz :: zz :: zz :: zz :: zz :: zz :: zz :: zz :: zz :: zz :: zz :: zz :: zz :: zz :: zz :: zz :: zz :: zz :: zz :: zz :: zz :: zz :: zz :: zz :: zz :: zz :: zz :: zz :: zz :: zz :: zz :: zz :: zz :: zz :: zz :: zz :: zz :: zz :: zz :: zz :: zz :: zz :: zz :: zz :: zz :: zz :: zz :: zz :: zz :: zz :: zz :: zz :: zz :: zz :: zz :: zz :: zz :: zz :: zz :: zz :: zz :: zz :: zz :: zz :: zz :: zz :: zz :: zz :: zz :: zz :: zz :: zz :: zz :: zz :: zz :: zz :: zz :: zz :: zz :: zz :: zz :: zz :: zz :: zz :: zz :: zz :: zz :: zz :: zz :: zz :: zz :: zz :: zz :: zz :: zz :: zz :: zz :: zz :: zz :: zz :: zz :: zz :: zz :: zz :: zz :: zz :: zz :: zz :: zz :: zz :: zz :: zz :: zz :: zz :: zz :: zz :: zz :: zz :: zz :: []),[(132,.box [.sc (.int .i64 (0)),.sc (.slice none 0 0),.sc (.slice none 0 0),.sc (.slice none 0 0),.sc (.slice none 0 0)]),(180,.box [.sc (.int .i64 (pi)),.ow 9001,.ow 9002,.ow 9003,.ow 9004]),(9001,.tree 26 (.row 2 (.int .i64)) (m1M (pi,ts,ns,os) j k'.1) none),(9002,.tree 26 (.row 2 (.int .i64)) (m2M (pi,ts,ns,os) j k'.1) none),(9003,.tree 26 (.row 2 (.int .i64)) (m3M (pi,ts,ns,os) j 0) none),(9004,.tree 26 (.row 2 (.int .i64)) (m4M (pi,ts,ns,os) j 0) none),(9005,.row 2 (.int .i64) (v1) []),(9006,.row 2 (.int .i64) (v2) [])]⟩) (fun k'=>cellN ns - k'.1) ⟨0,by simp⟩ ?_ ?_
   ·
    refine oK ?_
    simp (maxSteps:=2000000)only[go_sem]
    all_goals (first | rfl | ((repeat' refine And.intro ?_ ?_)<;>first | rfl | simp))
   rintro ⟨i,hi⟩ K28 hL28
   refine oS fun _ hK29=>?_
   refine oS fun _ hK30=>?_
   refine oW T_l09Column_ok ?_
   simp only[go_sem]
   repeat (with_reducible first | refine oA ?_ | refine And.intro (by first | exact hF | exact hcr | exact hpr | omega) ?_)
   refine hK30 _ ?_
   refine oC rfl ?_ ?_
   ·
    intro c3
    have hr1:=m1M_rl (q:=(pi,ts,ns,os)) (n:=j) (i:=i) (by show i < cellN ns; omega)
    have hr2:=m2M_rl (q:=(pi,ts,ns,os)) (n:=j) (i:=i) (by show i < cellN ns; omega)
    have hM1:=m1M_len (pi,ts,ns,os) j i
    have hM2:=m2M_len (pi,ts,ns,os) j i
    refine AWP_skip ?_
    simp only[go_sem]
    refine hK29 _ ?_
    refine oS fun _ hK31=>?_
    refine AWP_block ?_
    refine oS fun _ hK32=>?_
    refine oW T_l09Column_ok ?_
    simp only[go_sem]
    repeat (with_reducible first | refine oA ?_ | refine And.intro (by first | exact hF | exact hcr | exact hpr | omega) ?_)
    refine hK32 _ ?_
    refine oC rfl ?_ ?_
    ·
     intro c4
     have hq:=colQ_st (q:=(pi,ts,ns,os)) hpi.1 (j:=j) (by show j < cellN ns; omega)
     have hS1:=m1M_set (q:=(pi,ts,ns,os)) (v:=v1) (n:=j) (i:=i) (by show i < cellN ns; omega) (by show j < cellN ns; omega) (by rw [← hq,hcq0])
     have hS2:=m2M_out (q:=(pi,ts,ns,os)) (n:=j) (i:=i) (by show j < cellN ns; omega)
     refine oR T_l09Column_ok
       [[],[0],[],[0,1,2],[0,1,2,3],[],[],[],[6,7],[6,7,8],[0,1,2,3,4,5,6,7,8,9],[0,1,2,3,4,5,6,7,8,9,10]]
       [[],[],[],[],[],[],[],[],[],[],[],[]]
       [[],[],[],[],[],[],[],[],[],[],[],[]] (by kernel_rfl) (by kernel_rfl) (adrawR_ok (acc:=[]) ?_)
     simp (maxSteps:=2000000)only[hM1,hr1,hv1,Int.toNat_natCast,go_sem]
     repeat (with_reducible first | refine oD ?_ | refine And.intro (by first | exact hF | exact hcr | exact hpr | omega) ?_)
     refine hK31 _ ?_
     refine oW T_l09Column_ok ?_
     simp only[go_sem]
     repeat (with_reducible first | refine oA ?_ | refine And.intro (by first | exact hF | exact hcr | exact hpr | omega) ?_)
     refine hL28 ⟨i+1,by omega⟩ _ (oK ?_) ?_
     ·
      simp (maxSteps:=2000000)only[go_sem]
      all_goals ((repeat' refine And.intro ?_ ?_)<;>first | rfl | exact wk (by omega) | exact hS1 | exact hS2 | (congr 1; exact hS1) | (congr 1; exact hS2) | (congr 1; done))
     ·
      first | (simp only[]; omega) | omega | (simp; omega)
    intro c4
    have hq:=colQ_in' (q:=(pi,ts,ns,os)) (j:=j) (by show cellN ns≤j; omega)
    have hS2:=m2M_set (q:=(pi,ts,ns,os)) (v:=v1) (n:=j) (i:=i) (by show i < cellN ns; omega) (by show cellN ns≤j; omega) hjl (by rw [← hq,hcq0])
    have hS1:=m1M_out (q:=(pi,ts,ns,os)) (n:=j) (i:=i) (by show ¬ j < cellN ns; omega)
    have hjc:(j:Int) - (cellN ns:Int)=((j - cellN ns:Nat):Int):=by omega
    have hwk:IntKind.i64.wrap ((j - cellN ns:Nat):Int)=((j - cellN ns:Nat):Int):=wrapI (by omega)
    refine oR T_l09Column_ok
      [[],[0],[],[0,1,2],[0,1,2,3],[],[],[5,6],[],[],[8,9],[8,9,10],[0,1,2,3,4,5,6,7,8,9,10,11],[0,1,2,3,4,5,6,7,8,9,10,11,12]]
      [[],[],[],[],[],[],[],[],[],[],[],[],[],[]]
      [[],[],[],[],[],[],[],[],[],[],[],[],[],[]] (by kernel_rfl) (by kernel_rfl) (adrawR_ok (acc:=[]) ?_)
    simp (maxSteps:=2000000)only[hM2,hr2,hv1,hjc,hwk,Int.toNat_natCast,go_sem]
    repeat (with_reducible first | refine oD ?_ | refine And.intro (by first | exact hF | exact hcr | exact hpr | omega) ?_)
    refine hK31 _ ?_
    refine oW T_l09Column_ok ?_
    simp only[go_sem]
    repeat (with_reducible first | refine oA ?_ | refine And.intro (by first | exact hF | exact hcr | exact hpr | omega) ?_)
    refine hL28 ⟨i+1,by omega⟩ _ (oK ?_) ?_
    ·
     simp (maxSteps:=2000000)only[go_sem]
     all_goals ((repeat' refine And.intro ?_ ?_)<;>first | rfl | exact wk (by omega) | exact hS1 | exact hS2 | (congr 1; exact hS1) | (congr 1; exact hS2) | (congr 1; done))
    ·
     first | (simp only[]; omega) | omega | (simp; omega)
   intro c3
   refine AWP_exit ?_
   simp only[go_sem]
   refine hK26 _ ?_
   refine oS fun _ hK33=>?_
   refine oW T_l09Column_ok ?_
   simp only[go_sem]
   repeat (with_reducible first | refine oA ?_ | refine And.intro (by first | exact hF | exact hcr | exact hpr | omega) ?_)
   refine hK33 _ ?_
   refine AWP_block ?_
   refine AWP_loop_k (ι:={ i:Nat // i≤os.length }) (fun k'=>⟨(.c (.pt [] ((.prod (.int .i64) (.prod (.row 26 (.row 2 (.int .i64))) (.prod (.row 90 (.prod (.int .i64) (.prod (.int .i64) (.prod (.int .i64) (.row 2 (.int .i64)))))) (.row 2 (.int .i64)))))) (pi,ts,ns,os) 0) :: zz :: .c (.po 132 0) :: .c (.sc (.int .i64 (cellN ns))) :: .c (.sc (.int .i64 (os.length))) :: .c (.po 180 0) :: zz :: zz :: .c (.sc (.int .i64 (j))) :: zz :: .c (.ow 9006) :: zz :: .c (.sc (.int .i64 (k'.1))) :: zz :: zz :: zz :: zz :: zz :: zz :: zz :: zz :: zz :: zz :: zz :: zz :: zz :: zz :: zz :: zz :: zz :: zz :: zz :: zz :: zz :: zz :: zz :: zz :: zz :: zz :: zz :: zz :: zz :: zz :: zz :: zz :: zz :: zz :: zz :: zz :: zz :: zz :: zz :: zz :: zz :: zz :: zz :: zz :: zz :: zz :: zz :: zz :: zz :: zz :: zz :: zz :: zz :: zz :: zz :: zz :: zz :: zz :: zz :: zz :: zz :: zz :: zz :: zz :: zz :: zz :: zz :: zz :: zz :: zz :: zz :: zz :: zz :: zz :: zz :: zz :: zz :: zz :: zz :: zz :: zz :: zz :: zz :: zz :: zz :: zz :: zz :: zz :: zz :: zz :: zz :: zz :: zz :: zz :: zz :: zz :: zz :: zz :: zz :: zz :: zz :: zz :: zz :: zz :: zz :: zz :: zz :: zz :: zz :: zz :: zz :: zz :: zz :: zz :: zz :: zz :: zz :: zz :: zz :: zz :: zz :: zz :: zz :: zz :: zz :: zz :: zz :: zz :: zz :: zz :: zz :: zz :: zz :: zz :: zz :: zz :: zz :: zz :: zz :: zz :: zz :: zz :: zz :: zz :: zz :: zz :: zz :: zz :: zz :: zz :: zz :: []),[(132,.box [.sc (.int .i64 (0)),.sc (.slice none 0 0),.sc (.slice none 0 0),.sc (.slice none 0 0),.sc (.slice none 0 0)]),(180,.box [.sc (.int .i64 (pi)),.ow 9001,.ow 9002,.ow 9003,.ow 9004]),(9001,.tree 26 (.row 2 (.int .i64)) (m1M (pi,ts,ns,os) j i) none),(9002,.tree 26 (.row 2 (.int .i64)) (m2M (pi,ts,ns,os) j i) none),(9003,.tree 26 (.row 2 (.int .i64)) (m3M (pi,ts,ns,os) j k'.1) none),(9004,.tree 26 (.row 2 (.int .i64)) (m4M (pi,ts,ns,os) j k'.1) none),(9006,.row 2 (.int .i64) (v2) [])]⟩) (fun k'=>os.length - k'.1) ⟨0,by simp⟩ ?_ ?_
   ·
    refine oK ?_
    simp (maxSteps:=2000000)only[go_sem]
    all_goals (first | rfl | ((repeat' refine And.intro ?_ ?_)<;>first | rfl | simp))
   rintro ⟨i2,hi2⟩ K34 hL34
   refine oS fun _ hK35=>?_
   refine oS fun _ hK36=>?_
   refine oW T_l09Column_ok ?_
   simp only[go_sem]
   repeat (with_reducible first | refine oA ?_ | refine And.intro (by first | exact hF | exact hcr | exact hpr | omega) ?_)
   refine hK36 _ ?_
   refine oC rfl ?_ ?_
   ·
    intro c5
    have hr3:=m3M_rl (q:=(pi,ts,ns,os)) (n:=j) (i:=i2) (by show i2 < os.length; omega)
    have hr4:=m4M_rl (q:=(pi,ts,ns,os)) (n:=j) (i:=i2) (by show i2 < os.length; omega)
    have hM3:=m3M_len (pi,ts,ns,os) j i2
    have hM4:=m4M_len (pi,ts,ns,os) j i2
    refine AWP_skip ?_
    simp only[go_sem]
    refine hK35 _ ?_
    refine oS fun _ hK37=>?_
    refine AWP_block ?_
    refine oS fun _ hK38=>?_
    refine oW T_l09Column_ok ?_
    simp only[go_sem]
    repeat (with_reducible first | refine oA ?_ | refine And.intro (by first | exact hF | exact hcr | exact hpr | omega) ?_)
    refine hK38 _ ?_
    refine oC rfl ?_ ?_
    ·
     intro c6
     have hq:=colQ_st (q:=(pi,ts,ns,os)) hpi.1 (j:=j) (by show j < cellN ns; omega)
     have hS3:=m3M_set (q:=(pi,ts,ns,os)) (v:=v2) (n:=j) (i:=i2) (by show i2 < os.length; omega) (by show j < cellN ns; omega) (by rw [← hq,hcq0])
     have hS4:=m4M_out (q:=(pi,ts,ns,os)) (n:=j) (i:=i2) (by show j < cellN ns; omega)
     refine oR T_l09Column_ok
       [[],[0],[],[0,1,2],[0,1,2,3],[],[],[],[6,7],[6,7,8],[0,1,2,3,4,5,6,7,8,9],[0,1,2,3,4,5,6,7,8,9,10]]
       [[],[],[],[],[],[],[],[],[],[],[],[]]
       [[],[],[],[],[],[],[],[],[],[],[],[]] (by kernel_rfl) (by kernel_rfl) (adrawR_ok (acc:=[]) ?_)
     simp (maxSteps:=2000000)only[hM3,hr3,hv2,Int.toNat_natCast,go_sem]
     repeat (with_reducible first | refine oD ?_ | refine And.intro (by first | exact hF | exact hcr | exact hpr | omega) ?_)
     refine hK37 _ ?_
     refine oW T_l09Column_ok ?_
     simp only[go_sem]
     repeat (with_reducible first | refine oA ?_ | refine And.intro (by first | exact hF | exact hcr | exact hpr | omega) ?_)
     refine hL34 ⟨i2+1,by omega⟩ _ (oK ?_) ?_
     ·
      simp (maxSteps:=2000000)only[go_sem]
      all_goals ((repeat' refine And.intro ?_ ?_)<;>first | rfl | exact wk (by omega) | exact hS3 | exact hS4 | (congr 1; exact hS3) | (congr 1; exact hS4) | (congr 1; done))
     ·
      first | (simp only[]; omega) | omega | (simp; omega)
    intro c6
    have hq:=colQ_in' (q:=(pi,ts,ns,os)) (j:=j) (by show cellN ns≤j; omega)
    have hS4:=m4M_set (q:=(pi,ts,ns,os)) (v:=v2) (n:=j) (i:=i2) (by show i2 < os.length; omega) (by show cellN ns≤j; omega) hjl (by rw [← hq,hcq0])
    have hS3:=m3M_out (q:=(pi,ts,ns,os)) (n:=j) (i:=i2) (by show ¬ j < cellN ns; omega)
    have hjc:(j:Int) - (cellN ns:Int)=((j - cellN ns:Nat):Int):=by omega
    have hwk:IntKind.i64.wrap ((j - cellN ns:Nat):Int)=((j - cellN ns:Nat):Int):=wrapI (by omega)
    refine oR T_l09Column_ok
      [[],[0],[],[0,1,2],[0,1,2,3],[],[],[5,6],[],[],[8,9],[8,9,10],[0,1,2,3,4,5,6,7,8,9,10,11],[0,1,2,3,4,5,6,7,8,9,10,11,12]]
      [[],[],[],[],[],[],[],[],[],[],[],[],[],[]]
      [[],[],[],[],[],[],[],[],[],[],[],[],[],[]] (by kernel_rfl) (by kernel_rfl) (adrawR_ok (acc:=[]) ?_)
    simp (maxSteps:=2000000)only[hM4,hr4,hv2,hjc,hwk,Int.toNat_natCast,go_sem]
    repeat (with_reducible first | refine oD ?_ | refine And.intro (by first | exact hF | exact hcr | exact hpr | omega) ?_)
    refine hK37 _ ?_
    refine oW T_l09Column_ok ?_
    simp only[go_sem]
    repeat (with_reducible first | refine oA ?_ | refine And.intro (by first | exact hF | exact hcr | exact hpr | omega) ?_)
    refine hL34 ⟨i2+1,by omega⟩ _ (oK ?_) ?_
    ·
     simp (maxSteps:=2000000)only[go_sem]
     all_goals ((repeat' refine And.intro ?_ ?_)<;>first | rfl | exact wk (by omega) | exact hS3 | exact hS4 | (congr 1; exact hS3) | (congr 1; exact hS4) | (congr 1; done))
    ·
     first | (simp only[]; omega) | omega | (simp; omega)
   intro c5
   have hE1:=m1M_end (q:=(pi,ts,ns,os)) (n:=j) (i:=i) (by show cellN ns≤i; omega)
   have hE2:=m2M_end (q:=(pi,ts,ns,os)) (n:=j) (i:=i) (by show cellN ns≤i; omega)
   have hE3:=m3M_end (q:=(pi,ts,ns,os)) (n:=j) (i:=i2) (by show os.length≤i2; omega)
   have hE4:=m4M_end (q:=(pi,ts,ns,os)) (n:=j) (i:=i2) (by show os.length≤i2; omega)
   refine AWP_exit ?_
   simp only[go_sem]
   refine hK24 _ ?_
   refine oW T_l09Column_ok ?_
   simp only[go_sem]
   repeat (with_reducible first | refine oA ?_ | refine And.intro (by first | exact hF | exact hcr | exact hpr | omega) ?_)
   refine hL21 ⟨j+1,by omega⟩ _ (oK ?_) ?_
   ·
    simp (maxSteps:=2000000)only[go_sem]
    all_goals ((repeat' refine And.intro ?_ ?_)<;>first | rfl | exact wk (by omega) | exact hE1 | exact hE2 | exact hE3 | exact hE4 | (congr 1; exact hE1) | (congr 1; exact hE2) | (congr 1; exact hE3) | (congr 1; exact hE4) | (congr 1; done))
   ·
    first | (simp only[]; omega) | omega | (simp; omega)
  intro c2
  have hje:j=cellN ns+(Int.toNat pi):=by omega
  refine AWP_exit ?_
  simp only[go_sem]
  refine hK19 _ ?_
  refine oS fun _ hK39=>?_
  refine oW T_l09Column_ok ?_
  simp only[go_sem]
  repeat (with_reducible first | refine oA ?_ | refine And.intro (by first | exact hF | exact hcr | exact hpr | omega) ?_)
  refine hK39 _ ?_
  refine AWP_ret ?_
  simp only[hres,go_sem]
  first | exact oF | (refine ⟨?_,oF⟩; exact linM_of (q:=(pi,ts,ns,os)) hje)
def T_l09Linear:Tab:=fun f=>if f=128 then some (.p K_l09Linear) else T_l09Column f
theorem T_l09Linear_ok:TabOk Tryz.prog T_l09Linear:=tabP l09Linear_ok (fnOk_of Tryz.func128 rfl (by decide)) T_l09Column_ok
attribute [go_sem] T_l09Linear K_l09Linear
def K_l09Made:Con:=⟨[.ptr (.prod (.int .i64) (.prod (.row 26 (.row 2 (.int .i64))) (.prod (.row 90 (.prod (.int .i64) (.prod (.int .i64) (.prod (.int .i64) (.row 2 (.int .i64)))))) (.row 2 (.int .i64)))))],[⟨(.prod (.int .i64) (.prod (.row 26 (.row 2 (.int .i64))) (.prod (.row 26 (.row 2 (.int .i64))) (.prod (.row 26 (.row 2 (.int .i64))) (.row 26 (.row 2 (.int .i64))))))),true⟩,⟨.int .i64,true⟩],fun _=>True,fun x=>linR x.1⟩
theorem l09Made_ok:PureT Tryz.prog 70 K_l09Made:=by
  refine pure_of_body Tryz.func70 rfl ?_
  have hres:Tryz.f70.results.toList=[.cell 2 55,.tmp 3]:=rfl
  rintro ⟨⟨(pi:Int),(ts:List (List Int)),(ns:List NodeD),(os:List Int)⟩,_⟩ hc hL
  simp only[K_l09Made,go_sem] at hL
  simp only[K_l09Made,St.init,St.initG,Tryz.ntmps70,go_sem] 
  refine oS fun _ hK1=>?_
  refine oW T_l09Linear_ok ?_
  simp only[go_sem]
  repeat (with_reducible first | refine oA ?_ | refine And.intro (by first | exact hP | exact hTF | exact hT) ?_)
  refine hK1 _ ?_
  refine oS fun _ hK2=>?_
  refine oS fun _ hK3=>?_
  refine oW T_l09Linear_ok ?_
  simp only[go_sem]
  repeat (with_reducible first | refine oA ?_ | refine And.intro (by first | exact hP | exact hTF | exact hT) ?_)
  refine hK3 _ ?_
  refine oC rfl ?_ ?_
  ·
   intro c0
   refine oS fun _ hK4=>?_
   refine oW T_l09Linear_ok ?_
   simp only[go_sem]
   repeat (with_reducible first | refine oA ?_ | refine And.intro (by first | exact hP | exact hTF | exact hT) ?_)
   refine hK4 _ ?_
   refine AWP_ret ?_
   simp only[hres,go_sem]
   first | exact oF | (refine ⟨?_,oF⟩; first | (rw [linR_1 (by assumption)]; exact ⟨rfl,rfl⟩) | (rw [linR_1 (by assumption)]; done))
  intro c0
  have hP:patchB (pi,ts,ns,os)=true:=by assumption
  have hT:=trim_patch hP
  have hTF:=(patchB_parts hT).1
  have hTl:=trim_lin (pi,ts,ns,os)
  refine AWP_skip ?_
  simp only[go_sem]
  refine hK2 _ ?_
  refine oS fun _ hK5=>?_
  refine oW T_l09Linear_ok ?_
  simp only[go_sem]
  repeat (with_reducible first | refine oA ?_ | refine And.intro (by first | exact hP | exact hTF | exact hT) ?_)
  refine hK5 _ ?_
  refine oS fun _ hK6=>?_
  refine oS fun _ hK7=>?_
  refine oW T_l09Linear_ok ?_
  simp only[go_sem]
  repeat (with_reducible first | refine oA ?_ | refine And.intro (by first | exact hP | exact hTF | exact hT) ?_)
  refine hK7 _ ?_
  refine oC rfl ?_ ?_
  ·
   intro c1
   refine oS fun _ hK8=>?_
   refine oW T_l09Linear_ok ?_
   simp only[go_sem]
   repeat (with_reducible first | refine oA ?_ | refine And.intro (by first | exact hP | exact hTF | exact hT) ?_)
   refine hK8 _ ?_
   refine AWP_ret ?_
   simp only[hres,go_sem]
   first | exact oF | (refine ⟨?_,oF⟩; first | (rw [linR_6 hP (by rw [← hTl]; assumption)]; exact ⟨rfl,rfl⟩) | (rw [linR_6 hP (by rw [← hTl]; assumption)]; done))
  intro c1
  refine AWP_skip ?_
  simp only[go_sem]
  refine hK6 _ ?_
  refine oS fun _ hK9=>?_
  refine oS fun _ hK10=>?_
  refine oW T_l09Linear_ok ?_
  simp only[go_sem]
  repeat (with_reducible first | refine oA ?_ | refine And.intro (by first | exact hP | exact hTF | exact hT) ?_)
  refine hK10 _ ?_
  refine oC rfl ?_ ?_
  ·
   intro c2
   refine oS fun _ hK11=>?_
   refine oW T_l09Linear_ok ?_
   simp only[go_sem]
   repeat (with_reducible first | refine oA ?_ | refine And.intro (by first | exact hP | exact hTF | exact hT) ?_)
   refine hK11 _ ?_
   refine AWP_ret ?_
   simp only[hres,go_sem]
   first | exact oF | (refine ⟨?_,oF⟩; first | (rw [linR_5 hP (by rw [← hTl]; assumption) (by omega)]; exact ⟨rfl,rfl⟩) | (rw [linR_5 hP (by rw [← hTl]; assumption) (by omega)]; done))
  intro c2
  refine AWP_skip ?_
  simp only[go_sem]
  refine hK9 _ ?_
  refine oS fun _ hK12=>?_
  refine oW T_l09Linear_ok ?_
  simp only[go_sem]
  repeat (with_reducible first | refine oA ?_ | refine And.intro (by first | exact hP | exact hTF | exact hT) ?_)
  refine hK12 _ ?_
  refine AWP_ret ?_
  simp only[hres,go_sem]
  first | exact oF | (refine ⟨?_,oF⟩; first | (rw [linR_0 hP (by rw [← hTl]; assumption) (by omega)]; exact ⟨rfl,rfl⟩) | (rw [linR_0 hP (by rw [← hTl]; assumption) (by omega)]; done))
def T_l09Made:Tab:=fun f=>if f=70 then some (.p K_l09Made) else T_l09Linear f
theorem T_l09Made_ok:TabOk Tryz.prog T_l09Made:=tabP l09Made_ok (fnOk_of Tryz.func70 rfl (by decide)) T_l09Linear_ok
attribute [go_sem] T_l09Made K_l09Made
def T_specLinOf:Tab:=T_l09Made
attribute [go_sem] T_specLinOf
end Go.Proofs.YtflaacndokbddaaGreat
