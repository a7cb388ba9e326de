/-
  Texts of this claim, joined (part 34). No condition beyond those of the theorems.
-/
import Derived.Test.YtgmabhkmiokiaaaGreatVa33
import Derived.Test.YtgmabhkmiokiaaaGreatVa32
namespace Go.Proofs.YtgmabhkmiokiaaaGreat
open Go.RowKit
set_option linter.unusedSimpArgs false
set_option linter.unusedVariables false
set_option maxRecDepth 100000
set_option maxHeartbeats 8000000
def T_mHm70:Tab:=fun f=>match T_linear f with
 | some k=>some k
 | none=>T_isPatch f
theorem T_mHm70_ok:TabOk Tryz.prog T_mHm70:=tabM T_linear_ok T_isPatch_ok
attribute [go_sem] T_mHm70 T0
def K_linCode:Con:=⟨[.val ((.row 28 (.prod (.int .i64) (.prod (.row 26 (.row 2 (.int .i64))) (.prod (.row 93 (.prod (.int .i64) (.prod (.int .i64) (.prod (.int .i64) (.row 2 (.int .i64)))))) (.row 2 (.int .i64)))))))],[⟨.int .i64,true⟩],fun _=>True,fun x=>codeL x.1⟩
theorem linCode_ok:PureT Tryz.prog 15 K_linCode:=by
  refine pure_of_body Tryz.func15 rfl ?_
  have hres:Tryz.f15.results.toList=[.tmp 2]:=rfl
  rintro ⟨(ps:List PatchD),_⟩ hc hL
  simp only[K_linCode,go_sem] at hL
  simp only[K_linCode,St.init,St.initG,Tryz.ntmps15,go_sem] 
  refine oS fun _ hK1=>?_;refine oW T_mHm70_ok ?_;simp only[go_sem];refine hK1 _ ?_;refine oS fun _ hK2=>?_;refine oS fun _ hK3=>?_;refine oW T_mHm70_ok ?_;simp only[go_sem];refine hK3 _ ?_;refine AWP_block ?_;refine AWP_loop_k (ι:={ k:Nat // k≤ps.length∧(ps.take k).all patchB=true }) (fun k=>⟨[.c (.rd [] 28 ((.prod (.int .i64) (.prod (.row 26 (.row 2 (.int .i64))) (.prod (.row 93 (.prod (.int .i64) (.prod (.int .i64) (.prod (.int .i64) (.row 2 (.int .i64)))))) (.row 2 (.int .i64)))))) (ps)),zz,zz,zz,zz,zz,zz,zz,zz,.c (.rd [] 28 ((.prod (.int .i64) (.prod (.row 26 (.row 2 (.int .i64))) (.prod (.row 93 (.prod (.int .i64) (.prod (.int .i64) (.prod (.int .i64) (.row 2 (.int .i64)))))) (.row 2 (.int .i64)))))) (ps)),.c (.sc (.int .i64 (ps.length))),.c (.sc (.int .i64 (k.1))),zz,zz,zz,zz,zz,zz,zz,zz,zz,zz,zz,zz,zz,zz,zz,zz,zz,zz,zz,zz,zz,zz,zz,zz,zz,zz,zz,zz,zz,zz,zz,zz,zz,zz,zz,zz,zz,zz,zz,zz,zz,zz,zz,zz,zz,zz,zz],[]⟩) (fun k=>ps.length - k.1) ⟨0,by simp⟩ ?_ ?_
  ·
   refine oK ?_;simp (maxSteps:=2000000)only[go_sem];all_goals (first | rfl | ((repeat' refine And.intro ?_ ?_)<;>first | rfl | simp))
  rintro ⟨k,hk,hp⟩ K4 hL4
  refine oS fun _ hK5=>?_;refine oW T_mHm70_ok ?_;simp only[go_sem];refine hK5 _ ?_;refine oS fun _ hK6=>?_;refine oC rfl ?_ ?_
  ·
   intro c0;refine AWP_skip ?_;simp only[go_sem];refine hK6 _ ?_;refine oS fun _ hK7=>?_;refine AWP_block ?_;refine oS fun _ hK8=>?_;refine oW T_mHm70_ok ?_;simp only[go_sem];repeat (with_reducible refine oA ?_)
   refine hK8 _ ?_;refine oS fun _ hK9=>?_;refine oW T_mHm70_ok ?_;simp only[go_sem];repeat (with_reducible refine oA ?_)
   refine hK9 _ ?_;refine oC rfl ?_ ?_
   ·
    intro c1;refine oS fun _ hK10=>?_;refine oW T_mHm70_ok ?_;simp only[go_sem];refine hK10 _ ?_;refine AWP_ret ?_;simp only[hres,go_sem];first | exact oF | (refine ⟨?_,oF⟩; rw [codeL_1 (all_stop (k:=k) (d:=((0,[],[],[]):PatchD)) (by omega) (by first | assumption | (clear hp; clear hK1 hK2 hK3 hL4 hK5 hK6 hK7 hK8 hK9 hK10; simp_all)))])
   intro c1;refine AWP_skip ?_;simp only[go_sem];refine hK7 _ ?_;refine oW T_mHm70_ok ?_;simp only[go_sem];refine hL4 ⟨k+1,by omega,all_next (d:=((0,[],[],[]):PatchD)) (by omega) hp (by first | assumption | (clear hK1 hK2 hK3 hL4 hK5 hK6 hK7 hK8 hK9; simp_all))⟩ _ (oK ?_) ?_
   ·
    simp (maxSteps:=2000000)only[go_sem];first | rfl | exact wk (by omega)
   ·
    first | (simp only[]; omega) | omega | (simp; omega)
  intro c0;have hA1:ps.all patchB=true:=all_done hp (by omega)
  refine AWP_exit ?_;simp only[go_sem];refine hK2 _ ?_;refine oS fun _ hK11=>?_;refine oS fun _ hK12=>?_;refine oW T_mHm70_ok ?_;simp only[go_sem];refine hK12 _ ?_;refine AWP_block ?_;refine AWP_loop_k (ι:={ k:Nat // k≤ps.length∧(ps.take k).all (linLike ps)=true }) (fun k=>⟨[.c (.rd [] 28 ((.prod (.int .i64) (.prod (.row 26 (.row 2 (.int .i64))) (.prod (.row 93 (.prod (.int .i64) (.prod (.int .i64) (.prod (.int .i64) (.row 2 (.int .i64)))))) (.row 2 (.int .i64)))))) (ps)),zz,zz,zz,zz,zz,zz,zz,zz,zz,zz,zz,zz,zz,zz,zz,zz,zz,zz,.c (.rd [] 28 ((.prod (.int .i64) (.prod (.row 26 (.row 2 (.int .i64))) (.prod (.row 93 (.prod (.int .i64) (.prod (.int .i64) (.prod (.int .i64) (.row 2 (.int .i64)))))) (.row 2 (.int .i64)))))) (ps)),.c (.sc (.int .i64 (ps.length))),.c (.sc (.int .i64 (k.1))),zz,zz,zz,zz,zz,zz,zz,zz,zz,zz,zz,zz,zz,zz,zz,zz,zz,zz,zz,zz,zz,zz,zz,zz,zz,zz,zz,zz,zz,zz,zz,zz,zz,zz,zz,zz,zz],[]⟩) (fun k=>ps.length - k.1) ⟨0,by simp⟩ ?_ ?_
  ·
   refine oK ?_;simp (maxSteps:=2000000)only[go_sem];all_goals (first | rfl | ((repeat' refine And.intro ?_ ?_)<;>first | rfl | simp))
  rintro ⟨k,hk,hp⟩ K13 hL13
  refine oS fun _ hK14=>?_;refine oW T_mHm70_ok ?_;simp only[go_sem];refine hK14 _ ?_;refine oS fun _ hK15=>?_;refine oC rfl ?_ ?_
  ·
   intro c2;have hpk:patchB (ps.getD k ((0,[],[],[]):PatchD))=true:=all_at hA1 (by omega)
   have hfk:formedB ((ps.getD k ((0,[],[],[]):PatchD)).1,(ps.getD k ((0,[],[],[]):PatchD)).2.1,(ps.getD k ((0,[],[],[]):PatchD)).2.2.1,(ps.getD k ((0,[],[],[]):PatchD)).2.2.2)=true:=(patchB_parts (p:=(ps.getD k ((0,[],[],[]):PatchD))) hpk).1
   have hpos:0 < ps.length:=by omega
   refine AWP_skip ?_;simp only[go_sem];refine hK15 _ ?_;refine oS fun _ hK16=>?_;refine AWP_block ?_;refine oS fun _ hK17=>?_;refine oW T_mHm70_ok ?_;simp only[go_sem];repeat (with_reducible refine oA ?_)
   refine hK17 _ ?_;refine oS fun _ hK18=>?_
   refine oR T_mHm70_ok
     [[],[0],[0,1],[0,1,2],[0,1,2,3],[0,1,2,3,4],[0,1,2,3],[0,1,2,3,6],[0,1,2,3,6,7],[0,1,2,3,6,7,8],[0,1,2,3,4,5,6,7,8,9],[0,1,2,3,4,5,6,7,8,9,10],[0,1,2,3,4,5,6,7,8,9,10,11],[0,1,2,3,4,5,6,7,8,9,10,11,12],[0,1,2,3,4,5,6,7,8,9,10,11,12,13],[0,1,2,3,4,5,6,7,8,9,10,11,12,13,14],[0,1,2,3,4,5,6,7,8,9,10,11,12],[0,1,2,3,4,5,6,7,8,9,10,11,12,16],[0,1,2,3,4,5,6,7,8,9,10,11,12,16,17],[0,1,2,3,4,5,6,7,8,9,10,11,12,16,17,18],[0,1,2,3,4,5,6,7,8,9,10,11,12,16,17,18,19],[0,1,2,3,4,5,6,7,8,9,10,11,12,13,14,15,16,17,18,19,20],[0,1,2,3,4,5,6,7,8,9,10,11,12,13,14,15,16,17,18,19,20,21]]
     [[],[],[],[],[],[],[],[],[],[],[],[],[],[],[],[],[],[],[],[],[],[],[]]
     [[],[],[],[],[],[],[],[],[],[],[],[],[],[],[],[],[],[],[],[],[],[],[]] (by kernel_rfl) (by kernel_rfl) (adrawR_ok (acc:=[]) ?_)
   simp (maxSteps:=2000000)only[go_sem];repeat' (with_reducible first | refine oD ?_ | refine And.intro (by first | exact hfk | exact hpos | omega) ?_ | refine oT (fun g10=>?_) (fun g10=>?_) | refine oE (fun g10=>?_) (fun g10=>?_))
   all_goals
    refine hK18 _ ?_;refine AWP_cond rfl ?_ ?_
    ·
     intro c3;try simp only[zA,zB,zC,zD,zE,zF,zG,zH,zI] at c3
     all_goals
      refine oS fun _ hK19=>?_;refine oW T_mHm70_ok ?_;simp only[go_sem];refine hK19 _ ?_;refine AWP_ret ?_;simp only[hres,go_sem]
      first
       | exact oF
       | refine ⟨?_,oF⟩
         have hq:linLike ps (ps.getD k ((0,[],[],[]):PatchD))=false:=by clear hK1 hK2 hK3 hL4 hK5 hK6 hK11 hK12 hL13 hK14 hK15 hK16 hK17 hK18 hK19; unfold linLike; simp_all<;>omega
         rw [codeL_6 hA1 (all_stop (k:=k) (d:=((0,[],[],[]):PatchD)) (by omega) hq)]
    ·
     intro c3;try simp only[zA,zB,zC,zD,zE,zF,zG,zH,zI] at c3
     all_goals
      have hq:linLike ps (ps.getD k ((0,[],[],[]):PatchD))=true:=by clear hK1 hK2 hK3 hL4 hK5 hK6 hK11 hK12 hL13 hK14 hK15 hK16 hK17 hK18; unfold linLike; simp_all<;>omega
      refine AWP_skip ?_;simp only[go_sem];refine hK16 _ ?_;refine oW T_mHm70_ok ?_;simp only[go_sem];refine hL13 ⟨k+1,by omega,all_next (d:=((0,[],[],[]):PatchD)) (by omega) hp (by first | assumption | (clear hK1 hK2 hK3 hL4 hK5 hK6 hK11 hK12 hL13 hK14 hK15 hK16 hK17 hK18; simp_all))⟩ _ (oK ?_) ?_
      ·
       simp (maxSteps:=2000000)only[go_sem];first | rfl | exact wk (by omega)
      ·
       first | (simp only[]; omega) | omega | (simp; omega)
  intro c2;have hA2:ps.all (linLike ps)=true:=all_done hp (by omega)
  refine AWP_exit ?_;simp only[go_sem];refine hK11 _ ?_;refine oS fun _ hK20=>?_;refine oS fun _ hK21=>?_;refine oW T_mHm70_ok ?_;simp only[go_sem];refine hK21 _ ?_;refine AWP_block ?_;refine AWP_loop_k (ι:={ k:Nat // k≤ps.length∧(ps.take k).all (fun p=>decide (cntT p≤24))=true }) (fun k=>⟨[zz,zz,zz,zz,zz,zz,zz,zz,zz,zz,zz,zz,zz,zz,zz,zz,zz,zz,zz,zz,zz,zz,zz,zz,zz,zz,zz,zz,zz,zz,zz,zz,zz,zz,zz,zz,zz,zz,zz,zz,zz,zz,zz,zz,zz,zz,zz,zz,zz,.c (.rd [] 28 ((.prod (.int .i64) (.prod (.row 26 (.row 2 (.int .i64))) (.prod (.row 93 (.prod (.int .i64) (.prod (.int .i64) (.prod (.int .i64) (.row 2 (.int .i64)))))) (.row 2 (.int .i64)))))) (ps)),.c (.sc (.int .i64 (ps.length))),.c (.sc (.int .i64 (k.1))),zz,zz,zz,zz,zz,zz,zz],[]⟩) (fun k=>ps.length - k.1) ⟨0,by simp⟩ ?_ ?_
  ·
   refine oK ?_;simp (maxSteps:=2000000)only[go_sem];all_goals (first | rfl | ((repeat' refine And.intro ?_ ?_)<;>first | rfl | simp))
  rintro ⟨k,hk,hp⟩ K22 hL22
  refine oS fun _ hK23=>?_;refine oW T_mHm70_ok ?_;simp only[go_sem];refine hK23 _ ?_;refine oS fun _ hK24=>?_;refine oC rfl ?_ ?_
  ·
   intro c4;have hpk:patchB (ps.getD k ((0,[],[],[]):PatchD))=true:=all_at hA1 (by omega)
   have hfk:formedB ((ps.getD k ((0,[],[],[]):PatchD)).1,(ps.getD k ((0,[],[],[]):PatchD)).2.1,(ps.getD k ((0,[],[],[]):PatchD)).2.2.1,(ps.getD k ((0,[],[],[]):PatchD)).2.2.2)=true:=(patchB_parts (p:=(ps.getD k ((0,[],[],[]):PatchD))) hpk).1
   refine AWP_skip ?_;simp only[go_sem];refine hK24 _ ?_;refine oS fun _ hK25=>?_;refine AWP_block ?_;refine oS fun _ hK26=>?_;refine oW T_mHm70_ok ?_;simp only[go_sem];repeat (with_reducible refine oA ?_)
   refine hK26 _ ?_;refine oS fun _ hK27=>?_;refine oW T_mHm70_ok ?_;simp only[go_sem];repeat (with_reducible first | refine oA ?_ | refine And.intro (by first | exact hfk) ?_)
   refine hK27 _ ?_;refine oC rfl ?_ ?_
   ·
    intro c5;refine oS fun _ hK28=>?_;refine oW T_mHm70_ok ?_;simp only[go_sem];refine hK28 _ ?_;refine AWP_ret ?_;simp only[hres,go_sem];first | exact oF | (refine ⟨?_,oF⟩; rw [codeL_5 hA1 hA2 (all_stop (k:=k) (d:=((0,[],[],[]):PatchD)) (by omega) (by exact decide_eq_false (by have h:=(show (cntT (ps.getD k ((0,[],[],[]):PatchD)):Int) > 24 from c5); omega)))])
   intro c5;have hz:decide (cntT (ps.getD k ((0,[],[],[]):PatchD))≤24)=true:=decide_eq_true (by have h:=(show (cntT (ps.getD k ((0,[],[],[]):PatchD)):Int)≤24 from by first | exact c5 | (have:=c5; omega)); omega)
   refine AWP_skip ?_;simp only[go_sem];refine hK25 _ ?_;refine oW T_mHm70_ok ?_;simp only[go_sem];refine hL22 ⟨k+1,by omega,all_next (d:=((0,[],[],[]):PatchD)) (by omega) hp (by first | assumption | (clear hK1 hK2 hK3 hL4 hK5 hK6 hK11 hK12 hL13 hK14 hK15 hK20 hK21 hL22 hK23 hK24 hK25 hK26 hK27; simp_all))⟩ _ (oK ?_) ?_
   ·
    simp (maxSteps:=2000000)only[go_sem];first | rfl | exact wk (by omega)
   ·
    first | (simp only[]; omega) | omega | (simp; omega)
  intro c4;have hA3:ps.all (fun p=>decide (cntT p≤24))=true:=all_done hp (by omega)
  refine AWP_exit ?_;simp only[go_sem];refine hK20 _ ?_;refine oS fun _ hK29=>?_;refine oW T_mHm70_ok ?_;simp only[go_sem];refine hK29 _ ?_;refine AWP_ret ?_;simp only[hres,go_sem];first | exact oF | (refine ⟨?_,oF⟩; rw [codeL_0 hA1 hA2 hA3])
def T_linCode:Tab:=fun f=>if f=15 then some (.p K_linCode) else T_mHm70 f
theorem T_linCode_ok:TabOk Tryz.prog T_linCode:=tabP linCode_ok (fnOk_of Tryz.func15 rfl (by decide)) T_mHm70_ok
attribute [go_sem] T_linCode K_linCode
def T_implLinOf:Tab:=T_linCode
theorem T_implLinOf_ok:TabOk Tryz.prog T_implLinOf:=T_linCode_ok
attribute [go_sem] T_implLinOf
end Go.Proofs.YtgmabhkmiokiaaaGreat
