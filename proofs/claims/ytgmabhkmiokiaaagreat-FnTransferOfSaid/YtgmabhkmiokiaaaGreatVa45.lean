/-
  Texts of this claim, joined (part 45). No condition beyond those of the theorems.
-/
import Derived.Test.YtgmabhkmiokiaaaGreatVa44
import Derived.Test.YtgmabhkmiokiaaaGreatVa08
import Derived.Test.YtgmabhkmiokiaaaGreatVa41
import Derived.Test.YtgmabhkmiokiaaaGreatVa19
namespace Go.Proofs.YtgmabhkmiokiaaaGreat
open Go.RowKit
set_option linter.unusedSimpArgs false
set_option linter.unusedVariables false
set_option maxRecDepth 100000
set_option maxHeartbeats 8000000
def T_mHm1x0:Tab:=fun f=>match T_l07Keep f with
 | some k=>some k
 | none=>T_l06Start f
theorem T_mHm1x0_ok:TabOk Tryz.prog T_mHm1x0:=tabM T_l07Keep_ok T_l06Start_ok
attribute [go_sem] T_mHm1x0 T0
def T_mHm1x1:Tab:=fun f=>match T_mHm1x0 f with
 | some k=>some k
 | none=>T_l06Ok f
theorem T_mHm1x1_ok:TabOk Tryz.prog T_mHm1x1:=tabM T_mHm1x0_ok T_l06Ok_ok
attribute [go_sem] T_mHm1x1 T0
def K_l00Put:Con:=⟨[.val ((.row 2 (.int .i64))),.val (.int .i64)],[⟨(.row 2 (.int .i64)),true⟩],fun x=>x.1.length≤1000000,fun x=>putL x.1 x.2.1⟩
theorem l00Put_ok:PureT Tryz.prog 125 K_l00Put:=by
  refine pure_of_body Tryz.func125 rfl ?_
  have hres:Tryz.f125.results.toList=[.tmp 4]:=rfl
  rintro ⟨(xs:List Int),(m:Int),_⟩ hc hL
  simp only[K_l00Put,go_sem] at hL
  simp only[K_l00Put,St.init,St.initG,Tryz.ntmps125,go_sem] 
  have hxl:xs.length≤1000000:=hc
  refine oS fun _ hK1=>?_;refine oW T_mHm1x1_ok ?_;simp only[go_sem];refine hK1 _ ?_;refine oS fun _ hK2=>?_;refine oW T_mHm1x1_ok ?_;simp only[go_sem];repeat (with_reducible refine oA ?_)
  refine hK2 _ ?_;refine oS fun _ hK3=>?_;refine oW T_mHm1x1_ok ?_;simp only[go_sem];refine hK3 _ ?_;refine oS fun _ hK4=>?_;refine oS fun _ hK5=>?_;refine oW T_mHm1x1_ok ?_;simp only[go_sem];refine hK5 _ ?_;refine AWP_block ?_;refine AWP_loop_k (ι:={ s:Nat × Bool × List Int // s.1≤xs.length∧s.2.2.length≤s.1+1∧(s.2.1=false→s.2.2=xs.take s.1∧∀ x∈xs.take s.1,x < m)∧(s.2.1=true→s.2.2++xs.drop s.1=putL xs m) }) (fun k=>⟨[.c (.rd [] 2 (.int .i64) (xs)),.c (.sc (.int .i64 (m))),zz,zz,zz,.c (.ow 9001),.c (.sc (.bool (k.1.2.1))),.c (.sc (.int .i64 (k.1.1))),zz,zz,zz,zz,zz,zz,zz,zz,zz,zz,zz,zz,zz,zz,zz,zz,zz,zz,zz,zz,zz,zz,zz,zz,zz,zz,zz,zz,zz,zz,zz,zz,zz,zz,zz,zz,zz,zz,zz,zz,zz],[(9001,.row 2 (.int .i64) (k.1.2.2) [])]⟩) (fun k=>xs.length - k.1.1) ⟨(0,false,[]),by simp,by simp,fun _=>⟨by simp,by simp⟩,fun h=>by cases h⟩ ?_ ?_
  ·
   refine oK ?_;simp (maxSteps:=2000000)only[go_sem];all_goals (first | rfl | ((repeat' refine And.intro ?_ ?_)<;>first | rfl | simp))
  rintro ⟨⟨k,dn,ou⟩,hk,hol,hf,ht⟩ K6 hL6
  simp only at hk hol hf ht
  refine oS fun _ hK7=>?_;refine oS fun _ hK8=>?_;refine oW T_mHm1x1_ok ?_;simp only[go_sem];refine hK8 _ ?_;refine oC rfl ?_ ?_
  ·
   intro c0;refine AWP_skip ?_;simp only[go_sem];refine hK7 _ ?_;refine oS fun _ hK9=>?_;refine AWP_block ?_;refine oS fun _ hK10=>?_;refine oS fun _ hK11=>?_;refine oW T_mHm1x1_ok ?_;simp (maxSteps:=2000000)only[go_sem];repeat' (with_reducible first | refine oA ?_ | refine oT (fun g6=>?_) (fun g6=>?_) | refine oE (fun g6=>?_) (fun g6=>?_))
   all_goals
    refine hK11 _ ?_;refine AWP_cond rfl ?_ ?_
    ·
     intro c1;try simp only[zA,zB,zC,zD,zE,zF,zG,zH,zI] at c1
     all_goals
      have hdn:dn=false:=by clear hK1 hK2 hK3 hK4 hK5 hL6 hK7 hK8 hK9 hK10 hK11; cases dn<;>simp_all
      have hle:m≤xs.getD k 0:=by clear hK1 hK2 hK3 hK4 hK5 hL6 hK7 hK8 hK9 hK10 hK11; simp_all
      obtain ⟨hou,hlt⟩:=hf hdn
      subst hou;refine oS fun _ hK12=>?_;refine oW T_mHm1x1_ok ?_;simp only[go_sem];refine hK12 _ ?_;refine oS fun _ hK13=>?_;refine oW T_mHm1x1_ok ?_;simp (maxSteps:=2000000)only[go_sem];repeat (with_reducible refine oA ?_)
      refine hK13 _ ?_;refine AWP_cond rfl ?_ ?_
      ·
       intro c2;try simp only[zA,zB,zC,zD,zE,zF,zG,zH,zI] at c2
       all_goals
        have hnew:=put_new (show k < xs.length by omega) hlt (show m < xs.getD k 0 by omega)
        refine oW T_mHm1x1_ok ?_;simp (maxSteps:=2000000)only[go_sem];repeat (with_reducible first | refine oA ?_ | refine And.intro (by first | omega) ?_)
        refine hK10 _ ?_;refine oW T_mHm1x1_ok ?_;simp (maxSteps:=2000000)only[go_sem];repeat (with_reducible first | refine oA ?_ | refine And.intro (by first | omega) ?_)
        refine hK9 _ ?_;refine oW T_mHm1x1_ok ?_;simp only[go_sem];first | (refine hL6 ⟨(k+1,true,xs.take k++[m]++[xs.getD k 0]),by omega,by simp only[List.length_append,List.length_take,List.length_singleton]; omega,(fun h=>by cases h),fun _=>hnew⟩ _ (oK ?_) ?_) | (refine hL6 ⟨(k+1,true,xs.take k++[xs.getD k 0]),by omega,by simp only[List.length_append,List.length_take,List.length_singleton]; omega,(fun h=>by cases h),fun _=>hnew⟩ _ (oK ?_) ?_) | (refine hL6 ⟨(k+1,dn,ou++[xs.getD k 0]),by omega,by simp only[List.length_append,List.length_singleton]; omega,(fun h=>⟨by obtain ⟨e,_⟩:=hf h; subst e; exact (take_next (d:=0) (by omega)).symm,take_lt (by omega) (hf h).2 (hnk h)⟩),fun h=>put_keep (by omega) (ht h)⟩ _ (oK ?_) ?_)
        ·
         simp (maxSteps:=2000000)only[go_sem];all_goals (first | rfl | ((repeat' refine And.intro ?_ ?_)<;>first | rfl | exact wk (by omega) | simp))
        ·
         first | (simp only[]; omega) | omega | (simp; omega)
      ·
       intro c2;try simp only[zA,zB,zC,zD,zE,zF,zG,zH,zI] at c2
       all_goals
        have hnew:=put_old (show k < xs.length by omega) hlt (show xs.getD k 0=m by omega)
        refine AWP_skip ?_;simp only[go_sem];refine hK10 _ ?_;refine oW T_mHm1x1_ok ?_;simp (maxSteps:=2000000)only[go_sem];repeat (with_reducible first | refine oA ?_ | refine And.intro (by first | omega) ?_)
        refine hK9 _ ?_;refine oW T_mHm1x1_ok ?_;simp only[go_sem];first | (refine hL6 ⟨(k+1,true,xs.take k++[m]++[xs.getD k 0]),by omega,by simp only[List.length_append,List.length_take,List.length_singleton]; omega,(fun h=>by cases h),fun _=>hnew⟩ _ (oK ?_) ?_) | (refine hL6 ⟨(k+1,true,xs.take k++[xs.getD k 0]),by omega,by simp only[List.length_append,List.length_take,List.length_singleton]; omega,(fun h=>by cases h),fun _=>hnew⟩ _ (oK ?_) ?_) | (refine hL6 ⟨(k+1,dn,ou++[xs.getD k 0]),by omega,by simp only[List.length_append,List.length_singleton]; omega,(fun h=>⟨by obtain ⟨e,_⟩:=hf h; subst e; exact (take_next (d:=0) (by omega)).symm,take_lt (by omega) (hf h).2 (hnk h)⟩),fun h=>put_keep (by omega) (ht h)⟩ _ (oK ?_) ?_)
        ·
         simp (maxSteps:=2000000)only[go_sem];all_goals (first | rfl | ((repeat' refine And.intro ?_ ?_)<;>first | rfl | exact wk (by omega) | simp))
        ·
         first | (simp only[]; omega) | omega | (simp; omega)
    ·
     intro c1;try simp only[zA,zB,zC,zD,zE,zF,zG,zH,zI] at c1
     all_goals
      have hnk:dn=false→xs.getD k 0 < m:=fun h=>by clear hK1 hK2 hK3 hK4 hK5 hL6 hK7 hK8 hK9 hK10 hK11; simp_all
      refine AWP_skip ?_;simp only[go_sem];refine hK10 _ ?_;refine oW T_mHm1x1_ok ?_;simp (maxSteps:=2000000)only[go_sem];repeat (with_reducible first | refine oA ?_ | refine And.intro (by first | omega) ?_)
      refine hK9 _ ?_;refine oW T_mHm1x1_ok ?_;simp only[go_sem];first | (refine hL6 ⟨(k+1,true,xs.take k++[m]++[xs.getD k 0]),by omega,by simp only[List.length_append,List.length_take,List.length_singleton]; omega,(fun h=>by cases h),fun _=>hnew⟩ _ (oK ?_) ?_) | (refine hL6 ⟨(k+1,true,xs.take k++[xs.getD k 0]),by omega,by simp only[List.length_append,List.length_take,List.length_singleton]; omega,(fun h=>by cases h),fun _=>hnew⟩ _ (oK ?_) ?_) | (refine hL6 ⟨(k+1,dn,ou++[xs.getD k 0]),by omega,by simp only[List.length_append,List.length_singleton]; omega,(fun h=>⟨by obtain ⟨e,_⟩:=hf h; subst e; exact (take_next (d:=0) (by omega)).symm,take_lt (by omega) (hf h).2 (hnk h)⟩),fun h=>put_keep (by omega) (ht h)⟩ _ (oK ?_) ?_)
      ·
       simp (maxSteps:=2000000)only[go_sem];all_goals (first | rfl | ((repeat' refine And.intro ?_ ?_)<;>first | rfl | exact wk (by omega) | simp))
      ·
       first | (simp only[]; omega) | omega | (simp; omega)
  intro c0;refine AWP_exit ?_;simp only[go_sem];refine hK4 _ ?_;refine oS fun _ hK14=>?_;refine oS fun _ hK15=>?_;refine oW T_mHm1x1_ok ?_;simp only[go_sem];repeat (with_reducible refine oA ?_)
  refine hK15 _ ?_;refine oC rfl ?_ ?_
  ·
   intro c3;refine oW T_mHm1x1_ok ?_;simp (maxSteps:=2000000)only[go_sem];repeat (with_reducible first | refine oA ?_ | refine And.intro (by first | omega) ?_)
   refine hK14 _ ?_;refine oS fun _ hK16=>?_;refine oW T_mHm1x1_ok ?_;simp only[go_sem];refine hK16 _ ?_;refine AWP_ret ?_;simp only[hres,go_sem]
   first
    | exact oF
    | refine ⟨?_,oF⟩
      have hke:k=xs.length:=by omega
      clear hK1 hK2 hK3 hK4 hK5 hL6 hK7 hK8 hK14 hK15 hK16;subst hke;first | exact put_fin0 hf (by assumption) | exact put_fin1 ht (by assumption) | exact put_fin0 hf (by simp_all) | exact put_fin1 ht (by simp_all)
  intro c3;refine AWP_skip ?_;simp only[go_sem];refine hK14 _ ?_;refine oS fun _ hK17=>?_;refine oW T_mHm1x1_ok ?_;simp only[go_sem];refine hK17 _ ?_;refine AWP_ret ?_;simp only[hres,go_sem]
  first
   | exact oF
   | refine ⟨?_,oF⟩
     have hke:k=xs.length:=by omega
     clear hK1 hK2 hK3 hK4 hK5 hL6 hK7 hK8 hK14 hK15 hK17;subst hke;first | exact put_fin0 hf (by assumption) | exact put_fin1 ht (by assumption) | exact put_fin0 hf (by simp_all) | exact put_fin1 ht (by simp_all)
def T_l00Put:Tab:=fun f=>if f=125 then some (.p K_l00Put) else T_mHm1x1 f
theorem T_l00Put_ok:TabOk Tryz.prog T_l00Put:=tabP l00Put_ok (fnOk_of Tryz.func125 rfl (by decide)) T_mHm1x1_ok
attribute [go_sem] T_l00Put K_l00Put
def K_l07Needed:Con:=⟨[.ptr (.prod (.int .i64) (.prod (.row 26 (.row 2 (.int .i64))) (.prod (.row 93 (.prod (.int .i64) (.prod (.int .i64) (.prod (.int .i64) (.row 2 (.int .i64)))))) (.row 2 (.int .i64)))))],[⟨(.row 2 (.int .i64)),true⟩],fun x=>formedB x.1=true,fun x=>needF x.1⟩
theorem l07Needed_ok:PureT Tryz.prog 84 K_l07Needed:=by
  refine pure_of_body Tryz.func84 rfl ?_
  have hres:Tryz.f84.results.toList=[.tmp 2]:=rfl
  rintro ⟨⟨(pi:Int),(ts:List (List Int)),(ns:List NodeD),(os:List Int)⟩,_⟩ hc hL
  simp only[K_l07Needed,go_sem] at hL
  obtain ⟨⟨lts,lts2⟩,⟨lns,lns2⟩,los⟩:=hL
  simp only[K_l07Needed,St.init,St.initG,Tryz.ntmps84,go_sem] 
  have hF:formedB (pi,ts,ns,os)=true:=hc
  have hn24:ns.length≤24:=(formedB_parts hF).1
  have ho4:os.length≤4:=(formedB_parts hF).2.1
  refine oS fun _ hK1=>?_;refine oW T_l00Put_ok ?_;simp only[go_sem];refine hK1 _ ?_;refine oS fun _ hK2=>?_;refine oW T_l00Put_ok ?_;simp only[List.nodup_nil,go_sem];repeat (with_reducible refine oA ?_)
  refine hK2 _ ?_;refine oS fun _ hK3=>?_;refine oS fun _ hK4=>?_;refine oW T_l00Put_ok ?_;simp only[go_sem];refine hK4 _ ?_;refine AWP_block ?_;refine AWP_loop_k (ι:={ k:Nat // k≤os.length }) (fun k=>⟨[.c (.pt [] ((.prod (.int .i64) (.prod (.row 26 (.row 2 (.int .i64))) (.prod (.row 93 (.prod (.int .i64) (.prod (.int .i64) (.prod (.int .i64) (.row 2 (.int .i64)))))) (.row 2 (.int .i64)))))) (pi,ts,ns,os) 0),zz,zz,.c (.ow 9003),.c (.sc (.int .i64 (k.1))),zz,zz,zz,zz,zz,zz,zz,zz,zz,zz,zz,zz,zz,zz,zz,zz,zz,zz,zz,zz,zz,zz,zz,zz,zz,zz,zz,zz,zz,zz,zz,zz,zz,zz,zz,zz,zz,zz,zz,zz,zz,zz,zz,zz,zz,zz,zz,zz,zz,zz,zz,zz,zz,zz,zz,zz,zz,zz,zz,zz,zz,zz,zz,zz],[(9003,.row 2 (.int .i64) (putsL [] (os.take k.1)) [])]⟩) (fun k=>os.length - k.1) ⟨0,by simp⟩ ?_ ?_
  ·
   refine oK ?_;simp (maxSteps:=2000000)only[go_sem];all_goals (first | rfl | ((repeat' refine And.intro ?_ ?_)<;>first | rfl | simp))
  rintro ⟨k,hk⟩ K5 hL5
  have hps:(putsL [] (os.take k)).length≤4:=put_small hF k
  refine oS fun _ hK6=>?_;refine oS fun _ hK7=>?_;refine oW T_l00Put_ok ?_;simp (maxSteps:=2000000)only[go_sem];repeat (with_reducible refine oA ?_)
  refine hK7 _ ?_;refine oC rfl ?_ ?_
  ·
   intro c0;have hnx:=putsL_next (l:=[]) (m:=os) (k:=k) (by omega)
   refine AWP_skip ?_;simp only[go_sem];refine hK6 _ ?_;refine oS fun _ hK8=>?_;refine AWP_block ?_;refine oW T_l00Put_ok ?_;simp (maxSteps:=2000000)only[go_sem];repeat (with_reducible first | refine oA ?_ | refine And.intro (by first | exact Nat.le_trans hps (by decide)) ?_)
   refine hK8 _ ?_;refine oW T_l00Put_ok ?_;simp only[go_sem];refine hL5 ⟨k+1,by omega⟩ _ (oK ?_) ?_
   ·
    simp (maxSteps:=2000000)only[go_sem];all_goals ((repeat' refine And.intro ?_ ?_)<;>first | rfl | exact wk (by omega) | exact hnx.symm | (congr 1; exact hnx.symm) | (congr 1; done))
   ·
    first | (simp only[]; omega) | omega | (simp; omega)
  intro c0;have hte:os.take k=os:=List.take_of_length_le (by omega)
  refine AWP_exit ?_;simp only[go_sem];refine hK3 _ ?_;refine oS fun _ hK9=>?_;refine oS fun _ hK10=>?_;refine oW T_l00Put_ok ?_;simp only[go_sem];refine hK10 _ ?_;refine AWP_block ?_;refine AWP_loop_k (ι:={ s:List Int × Bool // NOk (pi,ts,ns,os) s.1∧(s.2=false→NClosed (pi,ts,ns,os) s.1) }) (fun s=>⟨[.c (.pt [] ((.prod (.int .i64) (.prod (.row 26 (.row 2 (.int .i64))) (.prod (.row 93 (.prod (.int .i64) (.prod (.int .i64) (.prod (.int .i64) (.row 2 (.int .i64)))))) (.row 2 (.int .i64)))))) (pi,ts,ns,os) 0),zz,zz,.c (.ow 9003),zz,.c (.sc (.bool (s.1.2))),zz,zz,zz,zz,zz,zz,zz,zz,zz,zz,zz,zz,zz,zz,zz,zz,zz,zz,zz,zz,zz,zz,zz,zz,zz,zz,zz,zz,zz,zz,zz,zz,zz,zz,zz,zz,zz,zz,zz,zz,zz,zz,zz,zz,zz,zz,zz,zz,zz,zz,zz,zz,zz,zz,zz,zz,zz,zz,zz,zz,zz,zz,zz],[(9003,.row 2 (.int .i64) (s.1.1) [])]⟩) (fun s=>2 * (ns.length - s.1.1.length)+s.1.2.toNat) ⟨(putsL [] os,true),outs_nok hF,fun h=>by cases h⟩ ?_ ?_
  ·
   refine oK ?_;simp (maxSteps:=2000000)only[go_sem];all_goals ((repeat' refine And.intro ?_ ?_)<;>first | rfl | (rw [hte]; done) | (congr 1; rw [hte]; done) | (congr 1; done))
  rintro ⟨⟨l,bg⟩,hN,hC⟩ K11 hL11
  simp only at hN hC
  have hll:l.length≤24:=Nat.le_trans hN.len hn24
  refine oS fun _ hK12=>?_;refine oS fun _ hK13=>?_;refine oW T_l00Put_ok ?_;simp only[go_sem];refine hK13 _ ?_;refine oC rfl ?_ ?_
  ·
   intro c1;refine AWP_skip ?_;simp only[go_sem];refine hK12 _ ?_;refine AWP_block ?_;refine oS fun _ hK14=>?_;refine oW T_l00Put_ok ?_;simp only[go_sem];refine hK14 _ ?_;refine oS fun _ hK15=>?_;refine oW T_l00Put_ok ?_;simp only[go_sem];repeat (with_reducible first | refine oA ?_ | refine And.intro (by first | exact Nat.le_trans hll (by decide)) ?_)
   refine hK15 _ ?_;refine oS fun _ hK16=>?_;refine oS fun _ hK17=>?_;refine oW T_l00Put_ok ?_;simp only[go_sem];refine hK17 _ ?_;refine AWP_block ?_;refine AWP_loop_k (ι:={ k:Nat // k≤l.length }) (fun k'=>⟨[.c (.pt [] ((.prod (.int .i64) (.prod (.row 26 (.row 2 (.int .i64))) (.prod (.row 93 (.prod (.int .i64) (.prod (.int .i64) (.prod (.int .i64) (.row 2 (.int .i64)))))) (.row 2 (.int .i64)))))) (pi,ts,ns,os) 0),zz,zz,.c (.ow 9003),zz,zz,.c (.sc (.int .i64 (l.length))),.c (.ow 9007),.c (.sc (.int .i64 (k'.1))),zz,zz,zz,zz,zz,zz,zz,zz,zz,zz,zz,zz,zz,zz,zz,zz,zz,zz,zz,zz,zz,zz,zz,zz,zz,zz,zz,zz,zz,zz,zz,zz,zz,zz,zz,zz,zz,zz,zz,zz,zz,zz,zz,zz,zz,zz,zz,zz,zz,zz,zz,zz,zz,zz,zz,zz,zz,zz,zz,zz],[(9003,.row 2 (.int .i64) ((rndL ns l k'.1)) []),(9007,.row 2 (.int .i64) (l) [])]⟩) (fun k'=>l.length - k'.1) ⟨0,by simp⟩ ?_ ?_
   ·
    refine oK ?_;simp (maxSteps:=2000000)only[go_sem];all_goals ((repeat' refine And.intro ?_ ?_)<;>first | rfl | (congr 1; done))
   rintro ⟨k,hk⟩ K18 hL18
   refine oS fun _ hK19=>?_;refine oS fun _ hK20=>?_;refine oW T_l00Put_ok ?_;simp only[go_sem];refine hK20 _ ?_;refine oC rfl ?_ ?_
   ·
    intro c2;obtain ⟨hr1,hr2,hr3⟩:=hN.rng _ (getD_mem (d:=(0:Int)) (show k < l.length by omega))
    have hr2:l.getD k 0 < (ns.length:Int):=hr2
    have hfl3:(ns.getD (l.getD k 0).toNat ((0,0,0,[]):NodeD)).2.2.2.length≤1000:=Nat.le_trans (froms_of hF _ (show (l.getD k 0).toNat < ns.length by omega)).1 (by decide)
    refine AWP_skip ?_;simp only[go_sem];refine hK19 _ ?_;refine oS fun _ hK21=>?_;refine AWP_block ?_;refine oS fun _ hK22=>?_
    refine oR T_l00Put_ok
      [[],[0],[0,1],[0,1,2],[],[],[4,5],[4,5,6],[0,1,2,3,4,5,6,7],[0,1,2,3,4,5,6,7,8],[0,1,2,3,4,5,6,7,8,9],[0,1,2,3,4,5,6,7,8,9,10]]
      [[],[],[],[],[],[],[],[],[],[],[],[]]
      [[],[],[],[],[],[],[],[],[],[],[],[]] (by kernel_rfl) (by kernel_rfl) (adrawR_ok (acc:=[]) ?_)
    simp (maxSteps:=2000000)only[go_sem];repeat (with_reducible refine oD ?_)
    refine hK22 _ ?_;refine oS fun _ hK23=>?_;refine oW T_l00Put_ok ?_;simp only[go_sem];refine hK23 _ ?_;refine AWP_block ?_;refine AWP_loop_k (ι:={ j:Nat // j≤(ns.getD (l.getD k 0).toNat ((0,0,0,[]):NodeD)).2.2.2.length }) (fun k''=>⟨[.c (.pt [] ((.prod (.int .i64) (.prod (.row 26 (.row 2 (.int .i64))) (.prod (.row 93 (.prod (.int .i64) (.prod (.int .i64) (.prod (.int .i64) (.row 2 (.int .i64)))))) (.row 2 (.int .i64)))))) (pi,ts,ns,os) 0),zz,zz,.c (.ow 9003),zz,zz,.c (.sc (.int .i64 (l.length))),.c (.ow 9007),.c (.sc (.int .i64 (k))),.c (.rd [] 2 (.int .i64) ((ns.getD (l.getD k 0).toNat ((0,0,0,[]):NodeD)).2.2.2)),.c (.sc (.int .i64 (k''.1))),zz,zz,zz,zz,zz,zz,zz,zz,zz,zz,zz,zz,zz,zz,zz,zz,zz,zz,zz,zz,zz,zz,zz,zz,zz,zz,zz,zz,zz,zz,zz,zz,zz,zz,zz,zz,zz,zz,zz,zz,zz,zz,zz,zz,zz,zz,zz,zz,zz,zz,zz,zz,zz,zz,zz,zz,zz,zz],[(9003,.row 2 (.int .i64) (putsL (rndL ns l k) ((ns.getD (l.getD k 0).toNat ((0,0,0,[]):NodeD)).2.2.2.take k''.1)) []),(9007,.row 2 (.int .i64) (l) [])]⟩) (fun k''=>(ns.getD (l.getD k 0).toNat ((0,0,0,[]):NodeD)).2.2.2.length - k''.1) ⟨0,by simp⟩ ?_ ?_
    ·
     refine oK ?_;simp (maxSteps:=2000000)only[go_sem];all_goals ((repeat' refine And.intro ?_ ?_)<;>first | rfl | (congr 1; done))
    rintro ⟨j,hj⟩ K24 hL24
    have hrp:(putsL (rndL ns l k) ((ns.getD (l.getD k 0).toNat ((0,0,0,[]):NodeD)).2.2.2.take j)).length≤ns.length+3:=rnd_part hF hN (by omega)
    refine oS fun _ hK25=>?_;refine oS fun _ hK26=>?_;refine oW T_l00Put_ok ?_;simp only[go_sem];refine hK26 _ ?_;refine oC rfl ?_ ?_
    ·
     intro c3;have hnf:=putsL_next (l:=rndL ns l k) (m:=(ns.getD (l.getD k 0).toNat ((0,0,0,[]):NodeD)).2.2.2) (k:=j) (by omega)
     refine AWP_skip ?_;simp only[go_sem];refine hK25 _ ?_;refine oS fun _ hK27=>?_;refine AWP_block ?_;refine oW T_l00Put_ok ?_;simp (maxSteps:=2000000)only[go_sem];repeat (with_reducible first | refine oA ?_ | refine And.intro (by first | exact Nat.le_trans hrp (by omega)) ?_)
     refine hK27 _ ?_;refine oW T_l00Put_ok ?_;simp only[go_sem];refine hL24 ⟨j+1,by omega⟩ _ (oK ?_) ?_
     ·
      simp (maxSteps:=2000000)only[go_sem];all_goals ((repeat' refine And.intro ?_ ?_)<;>first | rfl | exact wk (by omega) | exact hnf.symm | (congr 1; exact hnf.symm) | (congr 1; done))
     ·
      first | (simp only[]; omega) | omega | (simp; omega)
    intro c3;have hje:=rnd_last (ns:=ns) (l:=l) (k:=k) (F:=(ns.getD (l.getD k 0).toNat ((0,0,0,[]):NodeD)).2.2.2) rfl (j:=j) (by omega)
    refine AWP_exit ?_;simp only[go_sem];refine hK21 _ ?_;refine oW T_l00Put_ok ?_;simp only[go_sem];refine hL18 ⟨k+1,by omega⟩ _ (oK ?_) ?_
    ·
     simp (maxSteps:=2000000)only[go_sem];all_goals ((repeat' refine And.intro ?_ ?_)<;>first | rfl | exact wk (by omega) | exact hje | (congr 1; exact hje) | (congr 1; done))
    ·
     first | (simp only[]; omega) | omega | (simp; omega)
   intro c2;have hke:k=l.length:=by omega
   have hNN:=rnd_len hF hN (Nat.le_refl _)
   refine AWP_exit ?_;simp only[go_sem];refine hK16 _ ?_;refine oW T_l00Put_ok ?_;simp (maxSteps:=2000000)only[go_sem];refine hL11 ⟨(rndL ns l l.length,decide ((l.length:Int) < ((rndL ns l l.length).length:Int))),hNN,fun h=>rnd_done hN (show (rndL ns l l.length).length≤l.length by have:=of_decide_eq_false h; omega)⟩ _ (oK ?_) ?_
   ·
    simp (maxSteps:=2000000)only[go_sem];all_goals ((repeat' refine And.intro ?_ ?_)<;>first | rfl | exact wk (by omega) | (rw [hke]; done) | (congr 1; done))
   ·
    have h1:=hNN.len
    have h2:=hN.len
    have h1:(rndL ns l l.length).length≤ns.length:=h1
    have h2:l.length≤ns.length:=h2
    have h3:bg=true:=by assumption
    subst h3
    by_cases hd:(l.length:Int) < ((rndL ns l l.length).length:Int)
    · simp only[decide_eq_true hd,Bool.toNat_true]; omega
    · have h4:=(rndL_ok (ns:=ns) hN.srt l.length).2.2.1
      simp only[decide_eq_false hd,Bool.toNat_true,Bool.toNat_false]; omega
  intro c1;refine AWP_exit ?_;simp only[go_sem];refine hK9 _ ?_;refine oS fun _ hK28=>?_;refine oW T_l00Put_ok ?_;simp only[go_sem];refine hK28 _ ?_;refine AWP_ret ?_;simp only[hres,go_sem]
  first
   | exact oF
   | refine ⟨?_,oF⟩
     have hbg:bg=false:=by assumption
     exact hN.fin hF (hC hbg)
def T_l07Needed:Tab:=fun f=>if f=84 then some (.p K_l07Needed) else T_l00Put f
theorem T_l07Needed_ok:TabOk Tryz.prog T_l07Needed:=tabP l07Needed_ok (fnOk_of Tryz.func84 rfl (by decide)) T_l00Put_ok
attribute [go_sem] T_l07Needed K_l07Needed
def K_l09Trim:Con:=⟨[.ptr (.prod (.int .i64) (.prod (.row 26 (.row 2 (.int .i64))) (.prod (.row 93 (.prod (.int .i64) (.prod (.int .i64) (.prod (.int .i64) (.row 2 (.int .i64)))))) (.row 2 (.int .i64)))))],[⟨(.prod (.int .i64) (.prod (.row 26 (.row 2 (.int .i64))) (.prod (.row 93 (.prod (.int .i64) (.prod (.int .i64) (.prod (.int .i64) (.row 2 (.int .i64)))))) (.row 2 (.int .i64))))),true⟩],fun x=>patchB x.1=true,fun x=>trimP x.1⟩
theorem l09Trim_ok:PureT Tryz.prog 39 K_l09Trim:=by
  refine pure_of_body Tryz.func39 rfl ?_
  have hres:Tryz.f39.results.toList=[.cell 2 28]:=rfl
  rintro ⟨⟨(pi:Int),(ts:List (List Int)),(ns:List NodeD),(os:List Int)⟩,_⟩ hc hL
  simp only[K_l09Trim,go_sem] at hL
  simp only[K_l09Trim,St.init,St.initG,Tryz.ntmps39,go_sem] 
  have hP:patchB (pi,ts,ns,os)=true:=hc
  refine oS fun _ hK1=>?_;refine oW T_l07Needed_ok ?_;simp only[go_sem];refine hK1 _ ?_;refine oS fun _ hK2=>?_;refine oW T_l07Needed_ok ?_;simp (maxSteps:=2000000)only[go_sem];repeat (with_reducible first | refine oA ?_ | refine And.intro (by first | exact (patchB_parts hP).1 | with_unfolding_all exact trim_keep hP) ?_)
  refine hK2 _ ?_;refine AWP_ret ?_;simp only[hres,go_sem];first | exact oF | exact oFr
def T_l09Trim:Tab:=fun f=>if f=39 then some (.p K_l09Trim) else T_l07Needed f
theorem T_l09Trim_ok:TabOk Tryz.prog T_l09Trim:=tabP l09Trim_ok (fnOk_of Tryz.func39 rfl (by decide)) T_l07Needed_ok
attribute [go_sem] T_l09Trim K_l09Trim
def K_l06Linear:Con:=⟨[.val (.int .i64)],[⟨.bool,true⟩],fun _=>True,fun x=>linKB x.1⟩
theorem l06Linear_ok:PureT Tryz.prog 85 K_l06Linear:=by
  refine pure_of_body Tryz.func85 rfl ?_
  have hres:Tryz.f85.results.toList=[.tmp 2]:=rfl
  rintro ⟨(x:Int),_⟩ hc hL
  simp only[K_l06Linear,go_sem] at hL
  simp only[K_l06Linear,St.init,St.initG,Tryz.ntmps85,go_sem] 
  refine oS fun _ hK1=>?_;refine oW T_l09Trim_ok ?_;simp only[go_sem];refine hK1 _ ?_;refine oS fun _ hK2=>?_;refine oW T_l09Trim_ok ?_;simp only[List.nodup_cons,List.nodup_nil,List.not_mem_nil,not_false_eq_true,go_sem];repeat (with_reducible refine oA ?_)
  refine hK2 _ ?_;refine AWP_ret ?_;simp only[hres,go_sem];first | exact oF | (refine ⟨?_,oF⟩; exact linKB_or x)
def T_l06Linear:Tab:=fun f=>if f=85 then some (.p K_l06Linear) else T_l09Trim f
theorem T_l06Linear_ok:TabOk Tryz.prog T_l06Linear:=tabP l06Linear_ok (fnOk_of Tryz.func85 rfl (by decide)) T_l09Trim_ok
attribute [go_sem] T_l06Linear K_l06Linear
def K_l09Is:Con:=⟨[.ptr (.prod (.int .i64) (.prod (.row 26 (.row 2 (.int .i64))) (.prod (.row 93 (.prod (.int .i64) (.prod (.int .i64) (.prod (.int .i64) (.row 2 (.int .i64)))))) (.row 2 (.int .i64)))))],[⟨.bool,true⟩],fun _=>True,fun x=>x.1.2.2.1.all fun n=>linKB n.1⟩
theorem l09Is_ok:PureT Tryz.prog 40 K_l09Is:=by
  refine pure_of_body Tryz.func40 rfl ?_
  have hres:Tryz.f40.results.toList=[.tmp 2]:=rfl
  rintro ⟨⟨(pi:Int),(ts:List (List Int)),(ns:List NodeD),(os:List Int)⟩,_⟩ hc hL
  simp only[K_l09Is,go_sem] at hL
  obtain ⟨⟨lts,lts2⟩,⟨lns,lns2⟩,los⟩:=hL
  simp only[K_l09Is,St.init,St.initG,Tryz.ntmps40,go_sem] 
  refine oS fun _ hK1=>?_;refine oW T_l06Linear_ok ?_;simp only[go_sem];refine hK1 _ ?_;refine oS fun _ hK2=>?_;refine oS fun _ hK3=>?_;refine oW T_l06Linear_ok ?_;simp only[go_sem];refine hK3 _ ?_;refine AWP_block ?_;refine AWP_loop_k (ι:={ k:Nat // k≤ns.length∧(ns.take k).all (fun n=>linKB n.1)=true }) (fun k=>⟨[.c (.pt [] ((.prod (.int .i64) (.prod (.row 26 (.row 2 (.int .i64))) (.prod (.row 93 (.prod (.int .i64) (.prod (.int .i64) (.prod (.int .i64) (.row 2 (.int .i64)))))) (.row 2 (.int .i64)))))) (pi,ts,ns,os) 0),zz,zz,.c (.sc (.int .i64 (k.1))),zz,zz,zz,zz,zz,zz,zz,zz,zz,zz,zz,zz,zz,zz,zz,zz,zz,zz,zz],[]⟩) (fun k=>ns.length - k.1) ⟨0,by simp⟩ ?_ ?_
  ·
   refine oK ?_;simp (maxSteps:=2000000)only[go_sem];all_goals (first | rfl | ((repeat' refine And.intro ?_ ?_)<;>first | rfl | simp))
  rintro ⟨k,hk,hp⟩ K4 hL4
  refine oS fun _ hK5=>?_;refine oS fun _ hK6=>?_;refine oW T_l06Linear_ok ?_;simp (maxSteps:=2000000)only[go_sem];repeat (with_reducible refine oA ?_)
  refine hK6 _ ?_;refine oC rfl ?_ ?_
  ·
   intro c0;refine AWP_skip ?_;simp only[go_sem];refine hK5 _ ?_;refine oS fun _ hK7=>?_;refine AWP_block ?_;refine oS fun _ hK8=>?_;refine oW T_l06Linear_ok ?_;simp (maxSteps:=2000000)only[go_sem];repeat (with_reducible refine oA ?_)
   refine hK8 _ ?_;refine oC rfl ?_ ?_
   ·
    intro c1;refine oS fun _ hK9=>?_;refine oW T_l06Linear_ok ?_;simp only[go_sem];refine hK9 _ ?_;refine AWP_ret ?_;simp only[hres,go_sem];first | exact oF | (refine ⟨?_,oF⟩; exact (all_stop (k:=k) (d:=((0,0,0,[]):NodeD)) (by omega) (by first | assumption | (clear hp; clear hK1 hK2 hK3 hL4 hK5 hK6 hK7 hK8 hK9; simp_all))).symm)
   intro c1;refine AWP_skip ?_;simp only[go_sem];refine hK7 _ ?_;refine oW T_l06Linear_ok ?_;simp only[go_sem];refine hL4 ⟨k+1,by omega,all_next (d:=((0,0,0,[]):NodeD)) (by omega) hp (by first | assumption | (clear hK1 hK2 hK3 hL4 hK5 hK6 hK7 hK8; simp_all))⟩ _ (oK ?_) ?_
   ·
    simp (maxSteps:=2000000)only[go_sem];first | rfl | exact wk (by omega)
   ·
    first | (simp only[]; omega) | omega | (simp; omega)
  intro c0;refine AWP_exit ?_;simp only[go_sem];refine hK2 _ ?_;refine oS fun _ hK10=>?_;refine oW T_l06Linear_ok ?_;simp only[go_sem];refine hK10 _ ?_;refine AWP_ret ?_;simp only[hres,go_sem];first | exact oF | (refine ⟨?_,oF⟩; exact (all_done hp (by omega)).symm)
def T_l09Is:Tab:=fun f=>if f=40 then some (.p K_l09Is) else T_l06Linear f
theorem T_l09Is_ok:TabOk Tryz.prog T_l09Is:=tabP l09Is_ok (fnOk_of Tryz.func40 rfl (by decide)) T_l06Linear_ok
attribute [go_sem] T_l09Is K_l09Is
def K_stateSize:Con:=⟨[.val ((.prod (.int .i64) (.prod (.int .i64) (.prod (.int .i64) (.row 2 (.int .i64))))))],[⟨.int .i64,true⟩],fun x=>nodeB x.1 4=true,fun x=>((startV x.1).length:Int)⟩
theorem stateSize_ok:PureT Tryz.prog 86 K_stateSize:=by
  refine pure_of_body Tryz.func86 rfl ?_
  have hres:Tryz.f86.results.toList=[.tmp 2]:=rfl
  rintro ⟨⟨(kd:Int),(a:Int),(bb:Int),(fr:List Int)⟩,_⟩ hc hL
  simp only[K_stateSize,go_sem] at hL
  simp only[K_stateSize,St.init,St.initG,Tryz.ntmps86,go_sem] 
  have hB:nodeB (kd,a,bb,fr) 4=true:=hc
  have hnc:nodeC (kd,a,bb,fr):=⟨4,hB⟩
  refine oS fun _ hK1=>?_;refine oW T_l09Is_ok ?_;simp only[go_sem];refine hK1 _ ?_;refine oS fun _ hK2=>?_;refine oS fun _ hK3=>?_;refine oW T_l09Is_ok ?_;simp only[go_sem];repeat (with_reducible refine oA ?_)
  refine hK3 _ ?_;refine oC rfl ?_ ?_
  ·
   intro c0;exfalso;clear hK1 hK2 hK3;simp_all
  intro c0;refine AWP_skip ?_;simp only[go_sem];refine hK2 _ ?_;refine oS fun _ hK4=>?_;refine oW T_l09Is_ok ?_;simp only[go_sem];repeat (with_reducible first | refine oA ?_ | refine And.intro (by first | exact hnc) ?_)
  refine hK4 _ ?_;refine AWP_ret ?_;simp only[hres,go_sem];first | exact oF | exact oFr
def T_stateSize:Tab:=fun f=>if f=86 then some (.p K_stateSize) else T_l09Is f
theorem T_stateSize_ok:TabOk Tryz.prog T_stateSize:=tabP stateSize_ok (fnOk_of Tryz.func86 rfl (by decide)) T_l09Is_ok
attribute [go_sem] T_stateSize K_stateSize
def K_l09Count:Con:=⟨[.ptr (.prod (.int .i64) (.prod (.row 26 (.row 2 (.int .i64))) (.prod (.row 93 (.prod (.int .i64) (.prod (.int .i64) (.prod (.int .i64) (.row 2 (.int .i64)))))) (.row 2 (.int .i64)))))],[⟨.int .i64,true⟩],fun x=>formedB x.1=true,fun x=>(cellN x.1.2.2.1:Int)⟩
theorem l09Count_ok:PureT Tryz.prog 41 K_l09Count:=by
  refine pure_of_body Tryz.func41 rfl ?_
  have hres:Tryz.f41.results.toList=[.tmp 2]:=rfl
  rintro ⟨⟨(pi:Int),(ts:List (List Int)),(ns:List NodeD),(os:List Int)⟩,_⟩ hc hL
  simp only[K_l09Count,go_sem] at hL
  obtain ⟨⟨lts,lts2⟩,⟨lns,lns2⟩,los⟩:=hL
  simp only[K_l09Count,St.init,St.initG,Tryz.ntmps41,go_sem] 
  have hF:formedB (pi,ts,ns,os)=true:=hc
  have hn24:ns.length≤24:=(formedB_parts hF).1
  refine oS fun _ hK1=>?_;refine oW T_stateSize_ok ?_;simp only[go_sem];refine hK1 _ ?_;refine oS fun _ hK2=>?_;refine oW T_stateSize_ok ?_;simp only[go_sem];refine hK2 _ ?_;refine oS fun _ hK3=>?_;refine oS fun _ hK4=>?_;refine oW T_stateSize_ok ?_;simp only[go_sem];refine hK4 _ ?_;refine AWP_block ?_;refine AWP_loop_k (ι:={ k:Nat // k≤ns.length }) (fun k=>⟨[.c (.pt [] ((.prod (.int .i64) (.prod (.row 26 (.row 2 (.int .i64))) (.prod (.row 93 (.prod (.int .i64) (.prod (.int .i64) (.prod (.int .i64) (.row 2 (.int .i64)))))) (.row 2 (.int .i64)))))) (pi,ts,ns,os) 0),zz,zz,.c (.sc (.int .i64 (offN ns k.1))),.c (.sc (.int .i64 (k.1))),zz,zz,zz,zz,zz,zz,zz,zz,zz,zz,zz,zz,zz,zz,zz,zz,zz,zz,zz,zz],[]⟩) (fun k=>ns.length - k.1) ⟨0,by simp⟩ ?_ ?_
  ·
   refine oK ?_;simp (maxSteps:=2000000)only[go_sem];all_goals (first | rfl | ((repeat' refine And.intro ?_ ?_)<;>first | rfl | simp))
  rintro ⟨k,hk⟩ K5 hL5
  refine oS fun _ hK6=>?_;refine oS fun _ hK7=>?_;refine oW T_stateSize_ok ?_;simp (maxSteps:=2000000)only[go_sem];repeat (with_reducible refine oA ?_)
  refine hK7 _ ?_;refine oC rfl ?_ ?_
  ·
   intro c0;have hnb:nodeB ((ns.getD k ((0,0,0,[]):NodeD)).1,(ns.getD k ((0,0,0,[]):NodeD)).2.1,(ns.getD k ((0,0,0,[]):NodeD)).2.2.1,(ns.getD k ((0,0,0,[]):NodeD)).2.2.2) 4=true:=nodeB_4 (p:=(pi,ts,ns,os)) hF (by show k < ns.length; omega)
   have hnx:offN ns (k+1)=offN ns k+(startV (ns.getD k ((0,0,0,[]):NodeD))).length:=offN_next (by omega)
   have h16:offN ns (k+1)≤16 * (k+1):=offN_16 (p:=(pi,ts,ns,os)) hF _ (by show k+1≤ns.length; omega)
   have hw:IntKind.i64.wrap ((offN ns k:Int)+((startV (ns.getD k ((0,0,0,[]):NodeD))).length:Int))=(offN ns (k+1):Int):=by rw [wrapI (by omega)]; omega
   refine AWP_skip ?_;simp only[go_sem];refine hK6 _ ?_;refine oS fun _ hK8=>?_;refine AWP_block ?_;refine oW T_stateSize_ok ?_;simp (maxSteps:=2000000)only[hw,go_sem];repeat (with_reducible first | refine oA ?_ | refine And.intro (by first | exact hnb) ?_)
   refine hK8 _ ?_;refine oW T_stateSize_ok ?_;simp only[go_sem];refine hL5 ⟨k+1,by omega⟩ _ (oK ?_) ?_
   ·
    simp (maxSteps:=2000000)only[go_sem];all_goals ((repeat' refine And.intro ?_ ?_)<;>first | rfl | exact wk (by omega) | (congr 1; done))
   ·
    first | (simp only[]; omega) | omega | (simp; omega)
  intro c0;refine AWP_exit ?_;simp only[go_sem];refine hK3 _ ?_;refine oS fun _ hK9=>?_;refine oW T_stateSize_ok ?_;simp only[go_sem];refine hK9 _ ?_;refine AWP_ret ?_;simp only[hres,go_sem];first | exact oF | (refine ⟨?_,oF⟩; rw [offN_all (by omega)])
def T_l09Count:Tab:=fun f=>if f=41 then some (.p K_l09Count) else T_stateSize f
theorem T_l09Count_ok:TabOk Tryz.prog T_l09Count:=tabP l09Count_ok (fnOk_of Tryz.func41 rfl (by decide)) T_stateSize_ok
attribute [go_sem] T_l09Count K_l09Count
def K_l09MadeX:Con:=⟨[.ptr (.prod (.int .i64) (.prod (.row 26 (.row 2 (.int .i64))) (.prod (.row 93 (.prod (.int .i64) (.prod (.int .i64) (.prod (.int .i64) (.row 2 (.int .i64)))))) (.row 2 (.int .i64)))))],[⟨(.prod (.int .i64) (.prod (.row 26 (.row 2 (.int .i64))) (.prod (.row 26 (.row 2 (.int .i64))) (.prod (.row 26 (.row 2 (.int .i64))) (.row 26 (.row 2 (.int .i64))))))),true⟩,⟨.int .i64,true⟩],fun x=>¬ linCode x.1=0,fun x=>(((0,[],[],[],[]):LinD),linCode x.1)⟩
theorem l09MadeX_ok:PureT Tryz.prog 19 K_l09MadeX:=by
  refine pure_of_body Tryz.func19 rfl ?_
  have hres:Tryz.f19.results.toList=[.cell 2 48,.tmp 3]:=rfl
  rintro ⟨⟨(pi:Int),(ts:List (List Int)),(ns:List NodeD),(os:List Int)⟩,_⟩ hc hL
  simp only[K_l09MadeX,go_sem] at hL
  simp only[K_l09MadeX,St.init,St.initG,Tryz.ntmps19,go_sem] 
  have hne:¬ linCode (pi,ts,ns,os)=0:=hc
  refine oS fun _ hK1=>?_;refine oW T_l09Count_ok ?_;simp only[go_sem];repeat (with_reducible first | refine oA ?_ | refine And.intro (by first | exact hP | exact hTF | exact hT) ?_)
  refine hK1 _ ?_;refine oS fun _ hK2=>?_;refine oS fun _ hK3=>?_;refine oW T_l09Count_ok ?_;simp only[go_sem];repeat (with_reducible first | refine oA ?_ | refine And.intro (by first | exact hP | exact hTF | exact hT) ?_)
  refine hK3 _ ?_;refine oC rfl ?_ ?_
  ·
   intro c0;refine oS fun _ hK4=>?_;refine oW T_l09Count_ok ?_;simp only[go_sem];repeat (with_reducible first | refine oA ?_ | refine And.intro (by first | exact hP | exact hTF | exact hT) ?_)
   refine hK4 _ ?_;refine AWP_ret ?_;simp only[hres,go_sem];first | exact oF | (refine ⟨?_,oF⟩; first | (rw [linCode_1 (by assumption)]; exact ⟨rfl,rfl⟩) | (rw [linCode_1 (by assumption)]; done))
  intro c0;have hP:patchB (pi,ts,ns,os)=true:=by assumption
  have hT:=trim_patch hP
  have hTF:=(patchB_parts hT).1
  have hTl:=trim_lin (pi,ts,ns,os)
  refine AWP_skip ?_;simp only[go_sem];refine hK2 _ ?_;refine oS fun _ hK5=>?_;refine oW T_l09Count_ok ?_;simp only[go_sem];repeat (with_reducible first | refine oA ?_ | refine And.intro (by first | exact hP | exact hTF | exact hT) ?_)
  refine hK5 _ ?_;refine oS fun _ hK6=>?_;refine oS fun _ hK7=>?_;refine oW T_l09Count_ok ?_;simp only[go_sem];repeat (with_reducible first | refine oA ?_ | refine And.intro (by first | exact hP | exact hTF | exact hT) ?_)
  refine hK7 _ ?_;refine oC rfl ?_ ?_
  ·
   intro c1;refine oS fun _ hK8=>?_;refine oW T_l09Count_ok ?_;simp only[go_sem];repeat (with_reducible first | refine oA ?_ | refine And.intro (by first | exact hP | exact hTF | exact hT) ?_)
   refine hK8 _ ?_;refine AWP_ret ?_;simp only[hres,go_sem];first | exact oF | (refine ⟨?_,oF⟩; first | (rw [linCode_6 hP (by rw [← hTl]; assumption)]; exact ⟨rfl,rfl⟩) | (rw [linCode_6 hP (by rw [← hTl]; assumption)]; done))
  intro c1;refine AWP_skip ?_;simp only[go_sem];refine hK6 _ ?_;refine oS fun _ hK9=>?_;refine oS fun _ hK10=>?_;refine oW T_l09Count_ok ?_;simp only[go_sem];repeat (with_reducible first | refine oA ?_ | refine And.intro (by first | exact hP | exact hTF | exact hT) ?_)
  refine hK10 _ ?_;refine oC rfl ?_ ?_
  ·
   intro c2;refine oS fun _ hK11=>?_;refine oW T_l09Count_ok ?_;simp only[go_sem];repeat (with_reducible first | refine oA ?_ | refine And.intro (by first | exact hP | exact hTF | exact hT) ?_)
   refine hK11 _ ?_;refine AWP_ret ?_;simp only[hres,go_sem];first | exact oF | (refine ⟨?_,oF⟩; first | (rw [linCode_5 hP (by rw [← hTl]; assumption) (by omega)]; exact ⟨rfl,rfl⟩) | (rw [linCode_5 hP (by rw [← hTl]; assumption) (by omega)]; done))
  intro c2;exact absurd (linCode_0 hP (by rw [← hTl]; assumption) (by omega)) hne
def T_l09MadeX:Tab:=fun f=>if f=19 then some (.p K_l09MadeX) else T_l09Count f
theorem T_l09MadeX_ok:TabOk Tryz.prog T_l09MadeX:=tabP l09MadeX_ok (fnOk_of Tryz.func19 rfl (by decide)) T_l09Count_ok
attribute [go_sem] T_l09MadeX K_l09MadeX
def K_specTrnOfX:Con:=⟨[.val ((.prod (.int .i64) (.prod (.row 26 (.row 2 (.int .i64))) (.prod (.row 93 (.prod (.int .i64) (.prod (.int .i64) (.prod (.int .i64) (.row 2 (.int .i64)))))) (.row 2 (.int .i64)))))),.val (.int .i64),.val (.int .i64)],[⟨(.prod (.row 2 (.int .i64)) (.row 2 (.int .i64))),true⟩,⟨.int .i64,true⟩],fun x=>¬ linCode x.1=0,fun x=>((([],[]):TrD),linCode x.1)⟩
theorem specTrnOfX_ok:PureT Tryz.prog 8 K_specTrnOfX:=by
  refine pure_of_body Tryz.func8 rfl ?_
  have hres:Tryz.f8.results.toList=[.cell 6 32,.tmp 7]:=rfl
  rintro ⟨⟨(pi:Int),(ts:List (List Int)),(ns:List NodeD),(os:List Int)⟩,(ii:Int),(oo:Int),_⟩ hc hL
  simp only[K_specTrnOfX,go_sem] at hL
  simp only[K_specTrnOfX,St.init,St.initG,Tryz.ntmps8,go_sem] 
  have hne:¬ linCode (pi,ts,ns,os)=0:=hc
  refine oS fun _ hK1=>?_;refine oW T_l09MadeX_ok ?_;simp only[go_sem];refine hK1 _ ?_;refine oS fun _ hK2=>?_;refine oW T_l09MadeX_ok ?_;simp (maxSteps:=2000000)only[List.nodup_cons,List.nodup_nil,List.not_mem_nil,not_false_eq_true,go_sem];repeat (with_reducible first | refine oA ?_ | refine And.intro (by first | exact hne) ?_)
  refine hK2 _ ?_;refine oS fun _ hK3=>?_;refine oS fun _ hK4=>?_;refine oW T_l09MadeX_ok ?_;simp only[go_sem];refine hK4 _ ?_;refine oC rfl ?_ ?_
  ·
   intro c0;refine oS fun _ hK5=>?_;refine oW T_l09MadeX_ok ?_;simp only[go_sem];repeat (with_reducible refine oA ?_)
   refine hK5 _ ?_;refine AWP_ret ?_;simp only[hres,go_sem];first | exact oF | (refine ⟨?_,oF⟩; first | exact ⟨rfl,rfl⟩ | rfl)
  intro c0;exact absurd (by first | assumption | omega) hne
def T_specTrnOfX:Tab:=fun f=>if f=8 then some (.p K_specTrnOfX) else T_l09MadeX f
theorem T_specTrnOfX_ok:TabOk Tryz.prog T_specTrnOfX:=tabP specTrnOfX_ok (fnOk_of Tryz.func8 rfl (by decide)) T_l09MadeX_ok
attribute [go_sem] T_specTrnOfX K_specTrnOfX
end Go.Proofs.YtgmabhkmiokiaaaGreat
