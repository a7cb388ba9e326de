/-
  Texts of this claim, joined (part 35). No condition beyond those of the theorems.
-/
import Derived.Test.YtenjbehedcegdaaR32
import Derived.Test.YtenjbehedcegdaaR33
import Derived.Test.YtenjbehedcegdaaR34
import Derived.Test.YtenjbehedcegdaaR30
namespace Go.Proofs.Ytenjbehedcegdaa
open Go.RowKit
set_option linter.unusedSimpArgs false
set_option linter.unusedVariables false
set_option maxRecDepth 100000
set_option maxHeartbeats 16000000
def T_mHpB0:Tab:=fun f=>match T_l11Start f with
 | some k=>some k
 | none=>T_l06Out f
theorem T_mHpB0_ok:TabOk Try.prog T_mHpB0:=tabM T_l11Start_ok T_l06Out_ok
attribute [go_sem] T_mHpB0 T0
def T_mHpB1:Tab:=fun f=>match T_mHpB0 f with
 | some k=>some k
 | none=>T_l06Next f
theorem T_mHpB1_ok:TabOk Try.prog T_mHpB1:=tabM T_mHpB0_ok T_l06Next_ok
attribute [go_sem] T_mHpB1 T0
def K_l11Frame:GCon where
  ps:=[.ptr ((.prod (.int .i64) (.prod (.int .i64) (.prod (.row 24 (.row 2 (.int .i64))) (.prod (.row 49 (.prod (.int .i64) (.prod (.int .i64) (.prod (.int .i64) (.prod (.int .i64) (.prod (.row 2 (.int .i64)) (.int .i64))))))) (.row 2 (.int .i64))))))),.val ((.row 2 (.int .i64))),.ow 0,.ow 1]
  os:=[.row 2 (.int .i64),.tree 24 (.row 2 (.int .i64))]
  c:=fun x=>progB x.1.1=true∧smps x.1.2.1=true∧(x.1.2.1.length:Int)=x.1.1.1∧RefOk x.1.1 (x.2.1,x.2.2.1)
  r:=fun _=>.tup []
  o:=fun x=>[(30,.row 2 (.int .i64) ((refK x.1.1 x.1.2.1 (x.2.1,x.2.2.1) x.1.1.2.2.2.1.length).1) []),(31,.tree 24 (.row 2 (.int .i64)) ((refK x.1.1 x.1.2.1 (x.2.1,x.2.2.1) x.1.1.2.2.2.1.length).2) none)]
  ok:=by
    rintro⟨⟨⟨(gi:Int),(gr:Int),(ts:List (List Int)),(xs:List InstrD),(os:List Int)⟩,(ff:List Int),_,_,_⟩,⟨(rg:List Int),(ss:List (List Int)),_⟩⟩
    exact⟨rfl,rfl,by decide⟩
theorem l11Frame_ok:GenT Try.prog 22 K_l11Frame:=by
  refine gen_of_body Try.func22 rfl ?_
  have hres:Try.f22.results.toList=[]:=rfl
  rintro⟨⟨⟨(gi:Int),(gr:Int),(ts:List (List Int)),(xs:List InstrD),(os:List Int)⟩,(ff:List Int),_,_,_⟩,⟨(rg:List Int),(ss:List (List Int)),_⟩⟩ hc hL hO
  simp only[K_l11Frame,go_sem] at hL
  simp only[K_l11Frame,go_sem] at hO
  simp only[K_l11Frame,St.init,St.initG,Try.ntmps22,go_sem] 
  obtain⟨hP,hff,hfl,hR⟩:=(show progB (gi,gr,ts,xs,os)=true∧smps ff=true∧(ff.length:Int)=(gi,gr,ts,xs,os).1∧RefOk (gi,gr,ts,xs,os) (rg,ss) from hc)
  have hG:=progB_ok hP
  have hxl:xs.length≤48:=hG.cl
  have hr0:0≤gr:=hG.r0
  have hr24:gr≤24:=hG.r24
  have hx0:x0=((0,0,0,0,[],0):InstrD):=rfl
  refine oS fun _ hK1=>?_
  refine oW T_mHpB1_ok ?_
  simp only[go_sem]
  refine hK1 _ ?_
  refine AWP_block ?_
  refine AWP_loop_k (ι:={ k:Nat // k≤xs.length }) (fun k=>⟨[.c (.pt [] ((.prod (.int .i64) (.prod (.int .i64) (.prod (.row 24 (.row 2 (.int .i64))) (.prod (.row 49 (.prod (.int .i64) (.prod (.int .i64) (.prod (.int .i64) (.prod (.int .i64) (.prod (.row 2 (.int .i64)) (.int .i64))))))) (.row 2 (.int .i64))))))) (gi,gr,ts,xs,os) 0),.c (.rd [] 2 (.int .i64) (ff)),.c (.ow 30),.c (.ow 31),zz,zz,zz,zz,.c (.sc (.int .i64 (k.1))),zz,zz,zz,zz,zz,zz,zz,zz,zz,zz,zz,zz,zz,zz,zz,zz,zz,zz,zz,zz,zz,zz,zz,zz,zz,zz,zz,zz,zz,zz,zz,zz,zz,zz,zz,zz,zz,zz,zz,zz,zz,zz,zz,zz,zz,zz,zz,zz,zz,zz,zz,zz,zz,zz,zz,zz,zz,zz,zz,zz,zz,zz,zz,zz,zz,zz,zz,zz,zz,zz,zz,zz,zz,zz,zz,zz,zz,zz,zz,zz,zz,zz,zz,zz,zz,zz,zz,zz,zz,zz,zz,zz,zz,zz,zz,zz,zz,zz,zz,zz,zz,zz,zz,zz,zz,zz,zz,zz],[(30,.row 2 (.int .i64) ((refK (gi,gr,ts,xs,os) ff (rg,ss) k.1).1) []),(31,.tree 24 (.row 2 (.int .i64)) ((refK (gi,gr,ts,xs,os) ff (rg,ss) k.1).2) none)]⟩) (fun k=>xs.length - k.1) ⟨0,by simp⟩ ?_ ?_
  ·
   refine oK ?_
   simp (maxSteps:=2000000)only[go_sem]
   all_goals((repeat' refine And.intro ?_ ?_)<;>first|rfl|(congr 1;done)|(simp;done))
  rintro⟨k,hk⟩ K2 hL2
  have hK:=RefOk.step hG hff hR k (by omega:k≤xs.length)
  rcases hst0:(refK (gi,gr,ts,xs,os) ff (rg,ss) k) with⟨r,B⟩
  rw[hst0] at hK
  have hrl:r.length=gr.toNat:=hK.rl
  have hbl:B.length=xs.length:=hK.sl
  have hnx:refK (gi,gr,ts,xs,os) ff (rg,ss) (k+1)=refS (gi,gr,ts,xs,os) ff k (r,B):=by show refS _ ff k (refK _ ff (rg,ss) k)=_;rw[hst0]
  refine oS fun _ hK3=>?_
  refine oS fun _ hK4=>?_
  refine oW T_mHpB1_ok ?_
  simp (maxSteps:=2000000)only[go_sem]
  repeat(with_reducible refine oA ?_)
  refine hK4 _ ?_
  refine oC rfl ?_ ?_
  ·
   intro c0
   have hins:=(hG.ins k (by show k < xs.length;omega)).1
   have hip:=ins_parts hins
   have hmc:((xs.getD k ((0,0,0,0,[],0):InstrD)).2.2.2.2.1).length≤1000∧idxs (r.length:Int) ((xs.getD k ((0,0,0,0,[],0):InstrD)).2.2.2.2.1)=true:=⟨Nat.le_trans (ins_from hins) (by decide),by rw[hrl,Int.toNat_of_nonneg hr0];exact hip.2.1⟩
   refine AWP_skip ?_
   simp only[go_sem]
   refine hK3 _ ?_
   refine oS fun _ hK5=>?_
   refine AWP_block ?_
   refine oS fun _ hK6=>?_
   refine oW T_mHpB1_ok ?_
   simp (maxSteps:=2000000)only[go_sem]
   repeat(with_reducible refine oA ?_)
   refine hK6 _ ?_
   refine oS fun _ hK7=>?_
   refine oW T_mHpB1_ok ?_
   simp (maxSteps:=2000000)only[go_sem]
   repeat(with_reducible first|refine oA ?_|refine And.intro (by first|exact hmc) ?_)
   refine hK7 _ ?_
   refine oS fun _ hK8=>?_
   refine oS fun _ hK9=>?_
   refine oW T_mHpB1_ok ?_
   simp only[go_sem]
   repeat(with_reducible refine oA ?_)
   refine hK9 _ ?_
   refine AWP_block ?_
   refine oS fun _ hK10=>?_
   refine oW T_mHpB1_ok ?_
   simp only[go_sem]
   refine hK10 _ ?_
   refine oC rfl ?_ ?_
   ·
    intro c1
    have h18:(xs.getD k ((0,0,0,0,[],0):InstrD)).1=18:=by first|assumption|omega
    have hsto:=RefOk.sto hG hK (k:=k) (by show k < xs.length;omega) h18
    have hdl0:dlyN xs (xs.getD k ((0,0,0,0,[],0):InstrD)).2.2.2.1 < xs.length∧1≤(B.getD (dlyN xs (xs.getD k ((0,0,0,0,[],0):InstrD)).2.2.2.1) []).length∧(B.getD (dlyN xs (xs.getD k ((0,0,0,0,[],0):InstrD)).2.2.2.1) []).length≤16:=hsto
    obtain⟨hdA,hdB,hdC⟩:=hdl0
    have hdl:(((dlyN xs (xs.getD k ((0,0,0,0,[],0):InstrD)).2.2.2.1):Nat):Int).toNat=(dlyN xs (xs.getD k ((0,0,0,0,[],0):InstrD)).2.2.2.1):=by omega
    have hfl1:(xs.getD k ((0,0,0,0,[],0):InstrD)).2.2.2.2.1.length=1:=hip.2.2.1 h18
    have hml1:((xs.getD k ((0,0,0,0,[],0):InstrD)).2.2.2.2.1.map fun q=>r.getD (Int.toNat q) 0).length=1:=by rw[List.length_map];exact hfl1
    have hdr:((B.getD (dlyN xs (xs.getD k ((0,0,0,0,[],0):InstrD)).2.2.2.1) []).drop 1).length≤16:=by rw[List.length_drop];omega
    have hq1:((B.getD (dlyN xs (xs.getD k ((0,0,0,0,[],0):InstrD)).2.2.2.1) []).drop 1).length≤1099511627776:=by omega
    have hq2:(0:Int)≤0∧(0:Int) < (((xs.getD k ((0,0,0,0,[],0):InstrD)).2.2.2.2.1.map fun q=>r.getD (Int.toNat q) 0).length:Int):=by omega
    have hq3:0 < ((xs.getD k ((0,0,0,0,[],0):InstrD)).2.2.2.2.1.map fun q=>r.getD (Int.toNat q) 0).length:=by omega
    have hq4:(((B.getD (dlyN xs (xs.getD k ((0,0,0,0,[],0):InstrD)).2.2.2.1) []).drop 1).length+1) * 8≤140737488355328:=by omega
    have hm0:((xs.getD k ((0,0,0,0,[],0):InstrD)).2.2.2.2.1.map fun q=>r.getD (Int.toNat q) 0).getD 0 0=r.getD ((xs.getD k ((0,0,0,0,[],0):InstrD)).2.2.2.2.1.getD 0 0).toNat 0:=by obtain⟨y,hy⟩:=List.length_eq_one_iff.1 hfl1;rw[hy];rfl
    have hnx':(refK (gi,gr,ts,xs,os) ff (rg,ss) (k+1))=(r,B.set (dlyN xs (xs.getD k ((0,0,0,0,[],0):InstrD)).2.2.2.1) ((B.getD (dlyN xs (xs.getD k ((0,0,0,0,[],0):InstrD)).2.2.2.1) []).drop 1++[r.getD (Int.toNat ((xs.getD k ((0,0,0,0,[],0):InstrD)).2.2.2.2.1.getD 0 0)) 0])):=hnx.trans (refS_18 h18)
    refine oS fun _ hK11=>?_
    refine oR T_mHpB1_ok
      [[],[0],[0,1],[0,1,2],[],[4],[4,5],[4,5,6],[0,1,2,3,4,5,6,7],[0,1,2,3,4,5,6,7,8]]
      [[],[],[],[],[],[],[],[],[],[]]
      [[],[],[],[],[],[],[],[],[],[]] (by kernel_rfl) (by kernel_rfl) (adrawR_ok (acc:=[]) ?_)
    simp (maxSteps:=2000000)only[go_sem]
    repeat(with_reducible first|refine oD ?_|refine And.intro (by first|exact hxl) ?_)
    refine hK11 _ ?_
    refine oS fun _ hK12=>?_
    refine oR T_mHpB1_ok
      [[],[],[],[],[2,3],[2,3,4],[2,3,4,5],[2,3,4,5,6],[],[8],[8,9],[8,9,10],[2,3,4,5,6,7,8,9,10,11],[0,1,2,3,4,5,6,7,8,9,10,11,12],[0,1,2,3,4,5,6,7,8,9,10,11,12,13]]
      [[1012,1013,1014,1015,1016,1017,1018,1019,1020,1021,1022,1023,1024,1025,1026,1027,1076,1092],[1012,1013,1014,1015,1016,1017,1018,1019,1020,1021,1022,1023,1024,1025,1026,1027,1076,1092],[1076],[1076],[1076],[1076],[1076],[1076],[1012,1013,1014,1015,1016,1017,1018,1019,1020,1021,1022,1023,1024,1025,1026,1027],[1012,1013,1014,1015,1016,1017,1018,1019,1020,1021,1022,1023,1024,1025,1026,1027],[1012,1013,1014,1015,1016,1017,1018,1019,1020,1021,1022,1023,1024,1025,1026,1027],[1012,1013,1014,1015,1016,1017,1018,1019,1020,1021,1022,1023,1024,1025,1026,1027],[],[],[]]
      [[],[],[],[],[],[],[],[1012,1013,1014,1015,1016,1017,1018,1019,1020,1021,1022,1023,1024,1025,1026,1027],[],[],[],[1076],[1012,1013,1014,1015,1016,1017,1018,1019,1020,1021,1022,1023,1024,1025,1026,1027,1076,1092],[],[]] (by kernel_rfl) (by kernel_rfl) (adrawR_ok (acc:=[]) ?_)
    simp (maxSteps:=2000000)only[List.nodup_cons,List.nodup_nil,List.not_mem_nil,not_false_eq_true,List.take_length,hdl,hm0,go_sem]
    repeat(with_reducible first|refine oD ?_|refine And.intro (by first|exact hq1|exact hq2|exact hq3|exact hq4|omega) ?_)
    refine hK12 _ ?_
    refine AWP_exit ?_
    simp only[go_sem]
    refine hK5 _ ?_
    refine oW T_mHpB1_ok ?_
    simp only[go_sem]
    first|(refine hL2 ⟨k+1,by omega⟩ _ (oK ?_) ?_)|(refine hL2 ⟨k+1,by omega⟩ _ (oK ?_) ?_)|(refine hL2 ⟨k+1,by omega⟩ _ (oK ?_) ?_)
    ·
     simp (maxSteps:=2000000)only[go_sem]
     all_goals(try rw[hnx'])
     all_goals((repeat' refine And.intro ?_ ?_)<;>first|rfl|exact wk (by omega)|(congr 1;done))
    ·
     first|(simp only[];omega)|omega|(simp;omega)
   intro c1
   have h18:¬(xs.getD k ((0,0,0,0,[],0):InstrD)).1=18:=by first|assumption|omega
   have htr:0≤(xs.getD k ((0,0,0,0,[],0):InstrD)).2.2.2.2.2∧(xs.getD k ((0,0,0,0,[],0):InstrD)).2.2.2.2.2 < gr:=hip.2.2.2.1 h18
   have hd6:0≤(xs.getD k ((0,0,0,0,[],0):InstrD)).2.2.2.2.2∧(xs.getD k ((0,0,0,0,[],0):InstrD)).2.2.2.2.2 < (r.length:Int):=by omega
   refine oS fun _ hK13=>?_
   refine oW T_mHpB1_ok ?_
   simp only[go_sem]
   refine hK13 _ ?_
   refine oC rfl ?_ ?_
   ·
    intro c2
    have h6:(xs.getD k ((0,0,0,0,[],0):InstrD)).1=6:=by first|assumption|omega
    have hdd:1≤(B.getD k []).length∧(B.getD k []).length≤16:=RefOk.dly hG hK (k:=k) (by show k < xs.length;omega) h6
    have hnx':(refK (gi,gr,ts,xs,os) ff (rg,ss) (k+1))=(r.set (Int.toNat (xs.getD k ((0,0,0,0,[],0):InstrD)).2.2.2.2.2) ((B.getD k []).getD 0 0),B):=hnx.trans (refS_6 h6)
    refine oS fun _ hK14=>?_
    refine oR T_mHpB1_ok
      [[],[],[1],[1,2],[1,2,3],[],[],[5,6],[5,6,7],[5,6,7,8],[5,6,7,8,9],[0,1,2,3,4,5,6,7,8,9,10],[0,1,2,3,4,5,6,7,8,9,10,11]]
      [[],[],[],[],[],[],[],[],[],[],[],[],[]]
      [[],[],[],[],[],[],[],[],[],[],[],[],[]] (by kernel_rfl) (by kernel_rfl) (adrawR_ok (acc:=[]) ?_)
    simp (maxSteps:=2000000)only[go_sem]
    repeat(with_reducible first|refine oD ?_|refine And.intro (by first|exact hd5|exact hd6|omega) ?_)
    refine hK14 _ ?_
    refine AWP_exit ?_
    simp only[go_sem]
    refine hK5 _ ?_
    refine oW T_mHpB1_ok ?_
    simp only[go_sem]
    first|(refine hL2 ⟨k+1,by omega⟩ _ (oK ?_) ?_)|(refine hL2 ⟨k+1,by omega⟩ _ (oK ?_) ?_)|(refine hL2 ⟨k+1,by omega⟩ _ (oK ?_) ?_)
    ·
     simp (maxSteps:=2000000)only[go_sem]
     all_goals(try rw[hnx'])
     all_goals((repeat' refine And.intro ?_ ?_)<;>first|rfl|exact wk (by omega)|(congr 1;done))
    ·
     first|(simp only[];omega)|omega|(simp;omega)
   intro c2
   have h6:¬(xs.getD k ((0,0,0,0,[],0):InstrD)).1=6:=by first|assumption|omega
   have hst:stepC (nodeX (xs.getD k ((0,0,0,0,[],0):InstrD))) ts (inX ff r (xs.getD k ((0,0,0,0,[],0):InstrD))) (B.getD k []):=RefOk.ins hG hK hff (k:=k) (by show k < xs.length;omega) h18 h6
   have hnx':(refK (gi,gr,ts,xs,os) ff (rg,ss) (k+1))=(r.set (Int.toNat (xs.getD k ((0,0,0,0,[],0):InstrD)).2.2.2.2.2) (outV (xs.getD k ((0,0,0,0,[],0):InstrD)).1 (xs.getD k ((0,0,0,0,[],0):InstrD)).2.1 ts (inX ff r (xs.getD k ((0,0,0,0,[],0):InstrD))) (B.getD k [])),B.set k (nextV (xs.getD k ((0,0,0,0,[],0):InstrD)).1 (inX ff r (xs.getD k ((0,0,0,0,[],0):InstrD))) (B.getD k []) (outV (xs.getD k ((0,0,0,0,[],0):InstrD)).1 (xs.getD k ((0,0,0,0,[],0):InstrD)).2.1 ts (inX ff r (xs.getD k ((0,0,0,0,[],0):InstrD))) (B.getD k [])))):=hnx.trans (refS_n h18 h6)
   have hb1:0≤(k:Int)∧(k:Int) < (B.length:Int):=by omega
   refine oS fun _ hK15=>?_
   refine oW T_mHpB1_ok ?_
   simp only[go_sem]
   refine hK15 _ ?_
   refine oC rfl ?_ ?_
   ·
    intro c3
    have h1:(xs.getD k ((0,0,0,0,[],0):InstrD)).1=1:=by first|assumption|omega
    have hi0:=ins_one hins h1
    have hi3:(xs.getD k ((0,0,0,0,[],0):InstrD)).2.1 < gi:=(hG.ins k (by show k < xs.length;omega)).2 h1
    have hi1:0≤(xs.getD k ((0,0,0,0,[],0):InstrD)).2.1∧(xs.getD k ((0,0,0,0,[],0):InstrD)).2.1 < (ff.length:Int):=⟨hi0,by omega⟩
    have hin:inX ff r (xs.getD k ((0,0,0,0,[],0):InstrD))=[ff.getD (Int.toNat (xs.getD k ((0,0,0,0,[],0):InstrD)).2.1) 0]:=by unfold inX;rw[decide_eq_true h1]
    rw[hin] at hst hnx'
    have hst2:stepC ((nodeX (xs.getD k ((0,0,0,0,[],0):InstrD))).1,(nodeX (xs.getD k ((0,0,0,0,[],0):InstrD))).2.1,(nodeX (xs.getD k ((0,0,0,0,[],0):InstrD))).2.2.1,(nodeX (xs.getD k ((0,0,0,0,[],0):InstrD))).2.2.2) ts [ff.getD (Int.toNat (xs.getD k ((0,0,0,0,[],0):InstrD)).2.1) 0] (B.getD k []):=hst
    refine oW T_mHpB1_ok ?_
    simp (maxSteps:=2000000)only[List.nodup_cons,List.nodup_nil,List.not_mem_nil,not_false_eq_true,go_sem]
    repeat(with_reducible first|refine oA ?_|refine And.intro (by first|exact hi1|omega) ?_)
    refine hK8 _ ?_
    refine oS fun _ hK16=>?_
    refine oW T_mHpB1_ok ?_
    simp only[go_sem]
    repeat(with_reducible refine oA ?_)
    refine hK16 _ ?_
    refine oS fun _ hK17=>?_
    refine oR T_mHpB1_ok
      [[],[0],[0,1],[0,1,2],[],[],[],[5,6],[5,6,7],[0,1,2,3,4,5,6,7,8],[0,1,2,3,4,5,6,7,8,9]]
      [[],[],[],[],[],[],[],[],[],[],[]]
      [[],[],[],[],[],[],[],[],[],[],[]] (by kernel_rfl) (by kernel_rfl) (adrawR_ok (acc:=[]) ?_)
    simp (maxSteps:=2000000)only[go_sem]
    repeat(with_reducible first|refine oD ?_|refine And.intro (by first|exact hst2|exact hb1|omega) ?_)
    refine hK17 _ ?_
    refine oS fun _ hK18=>?_
    refine oW T_mHpB1_ok ?_
    simp (maxSteps:=2000000)only[List.nodup_cons,List.nodup_nil,List.not_mem_nil,not_false_eq_true,go_sem]
    repeat(with_reducible first|refine oA ?_|refine And.intro (by first|exact⟨_,hst2⟩|exact hb1|omega) ?_)
    refine hK18 _ ?_
    refine oW T_mHpB1_ok ?_
    simp (maxSteps:=2000000)only[go_sem]
    repeat(with_reducible first|refine oA ?_|refine And.intro (by first|exact hd6|omega) ?_)
    refine hK5 _ ?_
    refine oW T_mHpB1_ok ?_
    simp only[go_sem]
    first|(refine hL2 ⟨k+1,by omega⟩ _ (oK ?_) ?_)|(refine hL2 ⟨k+1,by omega⟩ _ (oK ?_) ?_)|(refine hL2 ⟨k+1,by omega⟩ _ (oK ?_) ?_)
    ·
     simp (maxSteps:=2000000)only[go_sem]
     all_goals(try rw[hnx'])
     all_goals((repeat' refine And.intro ?_ ?_)<;>first|rfl|exact wk (by omega)|(congr 1;done))
    ·
     first|(simp only[];omega)|omega|(simp;omega)
   intro c3
   have h1:¬(xs.getD k ((0,0,0,0,[],0):InstrD)).1=1:=by first|assumption|omega
   have hin:inX ff r (xs.getD k ((0,0,0,0,[],0):InstrD))=((xs.getD k ((0,0,0,0,[],0):InstrD)).2.2.2.2.1.map fun q=>r.getD (Int.toNat q) 0):=by unfold inX;rw[decide_eq_false h1]
   rw[hin] at hst hnx'
   have hst2:stepC ((nodeX (xs.getD k ((0,0,0,0,[],0):InstrD))).1,(nodeX (xs.getD k ((0,0,0,0,[],0):InstrD))).2.1,(nodeX (xs.getD k ((0,0,0,0,[],0):InstrD))).2.2.1,(nodeX (xs.getD k ((0,0,0,0,[],0):InstrD))).2.2.2) ts ((xs.getD k ((0,0,0,0,[],0):InstrD)).2.2.2.2.1.map fun q=>r.getD (Int.toNat q) 0) (B.getD k []):=hst
   refine AWP_skip ?_
   simp only[go_sem]
   refine hK8 _ ?_
   refine oS fun _ hK19=>?_
   refine oW T_mHpB1_ok ?_
   simp only[go_sem]
   repeat(with_reducible refine oA ?_)
   refine hK19 _ ?_
   refine oS fun _ hK20=>?_
   refine oR T_mHpB1_ok
     [[],[0],[0,1],[0,1,2],[],[],[],[5,6],[5,6,7],[0,1,2,3,4,5,6,7,8],[0,1,2,3,4,5,6,7,8,9]]
     [[],[],[],[],[],[],[],[],[],[],[]]
     [[],[],[],[],[],[],[],[],[],[],[]] (by kernel_rfl) (by kernel_rfl) (adrawR_ok (acc:=[]) ?_)
   simp (maxSteps:=2000000)only[go_sem]
   repeat(with_reducible first|refine oD ?_|refine And.intro (by first|exact hst2|exact hb1|omega) ?_)
   refine hK20 _ ?_
   refine oS fun _ hK21=>?_
   refine oW T_mHpB1_ok ?_
   simp (maxSteps:=2000000)only[List.nodup_cons,List.nodup_nil,List.not_mem_nil,not_false_eq_true,go_sem]
   repeat(with_reducible first|refine oA ?_|refine And.intro (by first|exact⟨_,hst2⟩|exact hb1|omega) ?_)
   refine hK21 _ ?_
   refine oW T_mHpB1_ok ?_
   simp (maxSteps:=2000000)only[go_sem]
   repeat(with_reducible first|refine oA ?_|refine And.intro (by first|exact hd6|omega) ?_)
   refine hK5 _ ?_
   refine oW T_mHpB1_ok ?_
   simp only[go_sem]
   first|(refine hL2 ⟨k+1,by omega⟩ _ (oK ?_) ?_)|(refine hL2 ⟨k+1,by omega⟩ _ (oK ?_) ?_)|(refine hL2 ⟨k+1,by omega⟩ _ (oK ?_) ?_)
   ·
    simp (maxSteps:=2000000)only[go_sem]
    all_goals(try rw[hnx'])
    all_goals((repeat' refine And.intro ?_ ?_)<;>first|rfl|exact wk (by omega)|(congr 1;done))
   ·
    first|(simp only[];omega)|omega|(simp;omega)
  intro c0
  have hk3:k=xs.length:=by omega
  refine AWP_exit ?_
  simp only[go_sem]
  simp (maxSteps:=2000000)only[hres,go_sem]
  first
   | exact oG
   | refine ⟨oG, ?_⟩
     clear hK1 hL2 hK3 hK4
     subst hk3
     rw[hst0]
     (repeat' refine And.intro ?_ ?_)<;>first|rfl|(congr 1;done)
def T_l11Frame:Tab:=fun f=>if f=22 then some (.g K_l11Frame) else T_mHpB1 f
theorem T_l11Frame_ok:TabOk Try.prog T_l11Frame:=tabG l11Frame_ok (fnOk_of Try.func22 rfl (by decide)) T_mHpB1_ok
attribute [go_sem] T_l11Frame K_l11Frame
end Go.Proofs.Ytenjbehedcegdaa
