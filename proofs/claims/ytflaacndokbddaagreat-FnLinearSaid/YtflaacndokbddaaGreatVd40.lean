/-
  Texts of this claim, joined (part 40). No condition beyond those of the theorems.
-/
import Derived.Test.YtflaacndokbddaaGreatVd07
import Derived.Test.YtflaacndokbddaaGreatVd23
namespace Go.Proofs.YtflaacndokbddaaGreat
open Go.RowKit
set_option linter.unusedSimpArgs false
set_option linter.unusedVariables false
set_option maxRecDepth 100000
set_option maxHeartbeats 4000000
def K_l04Samples:Con:=⟨[.val ((.row 2 (.int .i64)))],[⟨.bool,true⟩],fun _=>True,fun x=>smps x.1⟩
theorem l04Samples_ok:PureT Tryz.prog 202 K_l04Samples:=by
  refine pure_of_body Tryz.func202 rfl ?_
  have hres:Tryz.f202.results.toList=[.tmp 2]:=rfl
  rintro ⟨(xs:List Int),_⟩ hc hL
  simp only[K_l04Samples,go_sem] at hL
  obtain lxs:=hL
  simp only[K_l04Samples,St.init,St.initG,Tryz.ntmps202,go_sem] 
  refine oS fun _ hK1=>?_
  refine oW T_kinds_ok ?_
  simp only[go_sem]
  refine hK1 _ ?_
  refine oS fun _ hK2=>?_
  refine oS fun _ hK3=>?_
  refine oW T_kinds_ok ?_
  simp only[go_sem]
  refine hK3 _ ?_
  refine AWP_block ?_
  refine AWP_loop_k (ι:={ k:Nat // k≤xs.length∧(xs.take k).all smp=true }) (fun k=>⟨[.c (.rd [] 2 (.int .i64) (xs)),zz,zz,.c (.sc (.int .i64 (k.1))),zz,zz,zz,zz,zz,zz,zz,zz,zz,zz,zz,zz],[]⟩) (fun k=>xs.length - k.1) ⟨0,by simp⟩ ?_ ?_
  ·
   refine oK ?_
   simp (maxSteps:=2000000)only[go_sem]
   all_goals (first | rfl | ((repeat' refine And.intro ?_ ?_)<;>first | rfl | simp))
  rintro ⟨k,hk,hp⟩ K4 hL4
  refine oS fun _ hK5=>?_
  refine oS fun _ hK6=>?_
  refine oW T_kinds_ok ?_
  simp only[go_sem]
  refine hK6 _ ?_
  refine oC rfl ?_ ?_
  ·
   intro c0
   refine AWP_skip ?_
   simp only[go_sem]
   refine hK5 _ ?_
   refine oS fun _ hK7=>?_
   refine AWP_block ?_
   refine oS fun _ hK8=>?_
   refine oW T_kinds_ok ?_
   simp (maxSteps:=2000000)only[go_sem]
   repeat (with_reducible refine oA ?_)
   refine hK8 _ ?_
   refine oC rfl ?_ ?_
   ·
    intro c1
    refine oS fun _ hK9=>?_
    refine oW T_kinds_ok ?_
    simp only[go_sem]
    refine hK9 _ ?_
    refine AWP_ret ?_
    simp only[hres,go_sem]
    first | exact oF | (refine ⟨?_,oF⟩; exact (all_stop (k:=k) (d:=0) (by omega) (by first | assumption | (clear hp; clear hK1 hK2 hK3 hL4 hK5 hK6 hK7 hK8 hK9; simp_all))).symm)
   intro c1
   refine AWP_skip ?_
   simp only[go_sem]
   refine hK7 _ ?_
   refine oW T_kinds_ok ?_
   simp only[go_sem]
   refine hL4 ⟨k+1,by omega,all_next (d:=0) (by omega) hp (by first | assumption | (clear hK1 hK2 hK3 hL4 hK5 hK6 hK7 hK8; simp_all))⟩ _ (oK ?_) ?_
   ·
    simp (maxSteps:=2000000)only[go_sem]
    first | rfl | exact wk (by omega)
   ·
    first | (simp only[]; omega) | omega | (simp; omega)
  intro c0
  refine AWP_exit ?_
  simp only[go_sem]
  refine hK2 _ ?_
  refine oS fun _ hK10=>?_
  refine oW T_kinds_ok ?_
  simp only[go_sem]
  refine hK10 _ ?_
  refine AWP_ret ?_
  simp only[hres,go_sem]
  first | exact oF | (refine ⟨?_,oF⟩; exact (all_done hp (by omega)).symm)
def T_l04Samples:Tab:=fun f=>if f=202 then some (.p K_l04Samples) else T_kinds f
theorem T_l04Samples_ok:TabOk Tryz.prog T_l04Samples:=tabP l04Samples_ok (fnOk_of Tryz.func202 rfl (by decide)) T_kinds_ok
attribute [go_sem] T_l04Samples K_l04Samples
def K_l09Rows:Con:=⟨[.val ((.row 26 (.row 2 (.int .i64)))),.val (.int .i64),.val (.int .i64)],[⟨.bool,true⟩],fun _=>True,fun x=>mtbB x.1 x.2.1 x.2.2.1⟩
theorem l09Rows_ok:PureT Tryz.prog 146 K_l09Rows:=by
  refine pure_of_body Tryz.func146 rfl ?_
  have hres:Tryz.f146.results.toList=[.tmp 6]:=rfl
  rintro ⟨(rs:List (List Int)),(m:Int),(w:Int),_⟩ hc hL
  simp only[K_l09Rows,go_sem] at hL
  obtain ⟨lrs,lrs2⟩:=hL
  simp only[K_l09Rows,St.init,St.initG,Tryz.ntmps146,go_sem] 
  refine oS fun _ hK1=>?_
  refine oW T_l04Samples_ok ?_
  simp only[go_sem]
  refine hK1 _ ?_
  refine oS fun _ hK2=>?_
  refine oS fun _ hK3=>?_
  refine oW T_l04Samples_ok ?_
  simp only[go_sem]
  refine hK3 _ ?_
  refine oC rfl ?_ ?_
  ·
   intro c0
   refine oS fun _ hK4=>?_
   refine oW T_l04Samples_ok ?_
   simp only[go_sem]
   refine hK4 _ ?_
   refine AWP_ret ?_
   simp only[hres,go_sem]
   first | exact oF | (refine ⟨?_,oF⟩; exact (mtbB_f (by first | assumption | omega)).symm)
  intro c0
  refine AWP_skip ?_
  simp only[go_sem]
  refine hK2 _ ?_
  refine oS fun _ hK5=>?_
  refine oS fun _ hK6=>?_
  refine oW T_l04Samples_ok ?_
  simp only[go_sem]
  refine hK6 _ ?_
  refine AWP_block ?_
  refine AWP_loop_k (ι:={ k:Nat // k≤rs.length∧(rs.take k).all (rowB w)=true }) (fun k=>⟨[.c (.rd [] 26 (.row 2 (.int .i64)) (rs)),zz,.c (.sc (.int .i64 (w))),zz,zz,zz,zz,.c (.sc (.int .i64 (k.1))),zz,zz,zz,zz,zz,zz,zz,zz,zz,zz,zz,zz,zz,zz,zz,zz,zz,zz,zz,zz,zz,zz,zz,zz,zz],[]⟩) (fun k=>rs.length - k.1) ⟨0,by simp⟩ ?_ ?_
  ·
   refine oK ?_
   simp (maxSteps:=2000000)only[go_sem]
   all_goals (first | rfl | ((repeat' refine And.intro ?_ ?_)<;>first | rfl | simp))
  rintro ⟨k,hk,hp⟩ K7 hL7
  refine oS fun _ hK8=>?_
  refine oS fun _ hK9=>?_
  refine oW T_l04Samples_ok ?_
  simp only[go_sem]
  refine hK9 _ ?_
  refine oC rfl ?_ ?_
  ·
   intro c1
   refine AWP_skip ?_
   simp only[go_sem]
   refine hK8 _ ?_
   refine oS fun _ hK10=>?_
   refine AWP_block ?_
   refine oS fun _ hK11=>?_
   refine oW T_l04Samples_ok ?_
   simp (maxSteps:=2000000)only[go_sem]
   repeat' (with_reducible first | refine oA ?_ | refine oT (fun g6=>?_) (fun g6=>?_) | refine oE (fun g6=>?_) (fun g6=>?_))
   all_goals
    refine hK11 _ ?_
    refine AWP_cond rfl ?_ ?_
    ·
     intro c2
     try simp only[zA,zB,zC,zD,zE,zF,zG,zH,zI] at c2
     all_goals
      have hqf:rowB w (rs.getD k [])=false:=by
        clear hK1 hK2 hK3 hK5 hK6 hL7 hK8 hK9 hK10 hK11
        unfold rowB
        first | (simp_all; done) | (by_cases z:((rs.getD k []).length:Int)=w<;>simp_all)
      refine oS fun _ hK12=>?_
      refine oW T_l04Samples_ok ?_
      simp only[go_sem]
      refine hK12 _ ?_
      refine AWP_ret ?_
      simp only[hres,go_sem]
      first
       | exact oF
       | refine ⟨?_,oF⟩
         have hm:(rs.length:Int)=m:=by omega
         rw [mtbB_t hm]
         exact (all_stop (k:=k) (d:=[]) (by omega) hqf).symm
    ·
     intro c2
     try simp only[zA,zB,zC,zD,zE,zF,zG,zH,zI] at c2
     all_goals
      have hq:rowB w (rs.getD k [])=true:=by
        clear hK1 hK2 hK3 hK5 hK6 hL7 hK8 hK9 hK10 hK11
        unfold rowB
        simp_all
      refine AWP_skip ?_
      simp only[go_sem]
      refine hK10 _ ?_
      refine oW T_l04Samples_ok ?_
      simp only[go_sem]
      refine hL7 ⟨k+1,by omega,all_next (d:=[]) (by omega) hp (by first | assumption | (clear hK1 hK2 hK3 hK5 hK6 hL7 hK8 hK9 hK10 hK11; simp_all))⟩ _ (oK ?_) ?_
      ·
       simp (maxSteps:=2000000)only[go_sem]
       first | rfl | exact wk (by omega)
      ·
       first | (simp only[]; omega) | omega | (simp; omega)
  intro c1
  refine AWP_exit ?_
  simp only[go_sem]
  refine hK5 _ ?_
  refine oS fun _ hK13=>?_
  refine oW T_l04Samples_ok ?_
  simp only[go_sem]
  refine hK13 _ ?_
  refine AWP_ret ?_
  simp only[hres,go_sem]
  first
   | exact oF
   | refine ⟨?_,oF⟩
     have hm:(rs.length:Int)=m:=by omega
     rw [mtbB_t hm]
     exact (all_done hp (by omega)).symm
def T_l09Rows:Tab:=fun f=>if f=146 then some (.p K_l09Rows) else T_l04Samples f
theorem T_l09Rows_ok:TabOk Tryz.prog T_l09Rows:=tabP l09Rows_ok (fnOk_of Tryz.func146 rfl (by decide)) T_l04Samples_ok
attribute [go_sem] T_l09Rows K_l09Rows
def K_l09Ok:Con:=⟨[.ptr (.prod (.int .i64) (.prod (.row 26 (.row 2 (.int .i64))) (.prod (.row 26 (.row 2 (.int .i64))) (.prod (.row 26 (.row 2 (.int .i64))) (.row 26 (.row 2 (.int .i64)))))))],[⟨.bool,true⟩],fun _=>True,fun x=>linOkB x.1⟩
theorem l09Ok_ok:PureT Tryz.prog 86 K_l09Ok:=by
  refine pure_of_body Tryz.func86 rfl ?_
  have hres:Tryz.f86.results.toList=[.tmp 2]:=rfl
  rintro ⟨⟨(ni:Int),(la:List (List Int)),(lb:List (List Int)),(lc:List (List Int)),(ld:List (List Int))⟩,_⟩ hc hL
  simp only[K_l09Ok,go_sem] at hL
  simp only[K_l09Ok,St.init,St.initG,Tryz.ntmps86,go_sem] 
  refine oS fun _ hK1=>?_
  refine oW T_l09Rows_ok ?_
  simp only[go_sem]
  refine hK1 _ ?_
  refine oS fun _ hK2=>?_
  refine oW T_l09Rows_ok ?_
  simp (maxSteps:=2000000)only[go_sem]
  repeat (with_reducible refine oA ?_)
  refine hK2 _ ?_
  refine oS fun _ hK3=>?_
  refine oW T_l09Rows_ok ?_
  simp (maxSteps:=2000000)only[go_sem]
  repeat (with_reducible refine oA ?_)
  refine hK3 _ ?_
  refine oS fun _ hK4=>?_
  refine oR T_l09Rows_ok
    [[],[0],[0,1],[0,1,2],[0,1,2,3],[0,1,2,3,4],[0,1,2,3,4,5],[0,1,2,3,4,5,6],[0,1,2,3,4,5,6,7],[0,1,2,3,4,5,6,7,8],[0,1,2,3,4,5,6,7,8,9],[0,1,2,3,4,5,6,7,8,9,10],[0,1,2,3,4,5,6,7,8,9,10,11],[0,1,2,3,4,5,6,7,8,9,10,11,12],[0,1,2,3,4,5,6,7,8,9,10,11,12,13],[0,1,2,3,4,5,6,7,8,9,10,11,12,13,14],[0,1,2,3,4,5,6,7,8,9,10,11,12,13,14,15],[0,1,2,3,4,5,6,7,8,9,10,11,12,13,14,15,16],[0,1,2,3,4,5,6,7,8,9,10,11,12,13],[0,1,2,3,4,5,6,7,8,9,10,11,12,13],[0,1,2,3,4,5,6,7,8,9,10,11,12,13,14,15,16,17,18,19],[0,1,2,3,4,5,6,7,8,9,10,11,12,13,14,15,16,17,18,19,20],[0,1,2,3,4,5,6,7,8,9,10,11,12,13,14,15,16,17,18,19,20,21],[0,1,2,3,4,5,6,7,8,9,10,11,12,13,14,15,16,17,18,19,20,21,22],[0,1,2,3,4,5,6,7,8,9,10,11,12,13,14,15,16,17,18,19,20,21,22,23],[0,1,2,3,4,5,6,7,8,9,10,11,12,13,14,15,16,17,18,19,20,21,22,23,24],[0,1,2,3,4,5,6,7,8,9,10,11,12,13,14,15,16,17,18,19,20,21,22,23,24,25],[0,1,2,3,4,5,6,7,8,9,10,11,12,13,14,15,16,17,18,19,20,21,22],[0,1,2,3,4,5,6,7,8,9,10,11,12,13,14,15,16,17,18,19,20,21,22],[0,1,2,3,4,5,6,7,8,9,10,11,12,13,14,15,16,17,18,19,20,21,22,28],[0,1,2,3,4,5,6,7,8,9,10,11,12,13,14,15,16,17,18,19,20,21,22,28,29],[0,1,2,3,4,5,6,7,8,9,10,11,12,13,14,15,16,17,18,19,20,21,22,28,29,30],[0,1,2,3,4,5,6,7,8,9,10,11,12,13,14,15,16,17,18,19,20,21,22,23,24,25,26,27,28,29,30,31],[0,1,2,3,4,5,6,7,8,9,10,11,12,13,14,15,16,17,18,19,20,21,22,23,24,25,26,27,28,29,30,31,32],[0,1,2,3,4,5,6,7,8,9,10,11,12,13,14,15,16,17,18,19,20,21,22,23,24,25,26,27,28,29,30,31,32,33],[0,1,2,3,4,5,6,7,8,9,10,11,12,13,14,15,16,17,18,19,20,21,22,23,24,25,26,27,28,29,30,31,32,33,34],[0,1,2,3,4,5,6,7,8,9,10,11,12,13,14,15,16,17,18,19,20,21,22,23,24,25,26,27,28,29,30,31,32,33,34,35],[0,1,2,3,4,5,6,7,8,9,10,11,12,13,14,15,16,17,18,19,20,21,22,23,24,25,26,27,28,29,30,31,32,33,34,35,36],[0,1,2,3,4,5,6,7,8,9,10,11,12,13,14,15,16,17,18,19,20,21,22,23,24,25,26,27,28,29,30,31,32,33,34,35,36,37],[0,1,2,3,4,5,6,7,8,9,10,11,12,13,14,15,16,17,18,19,20,21,22,23,24,25,26,27,28,29,30,31,32,33,34],[0,1,2,3,4,5,6,7,8,9,10,11,12,13,14,15,16,17,18,19,20,21,22,23,24,25,26,27,28,29,30,31,32,33,34],[0,1,2,3,4,5,6,7,8,9,10,11,12,13,14,15,16,17,18,19,20,21,22,23,24,25,26,27,28,29,30,31,32,33,34,35,36,37,38,39,40],[0,1,2,3,4,5,6,7,8,9,10,11,12,13,14,15,16,17,18,19,20,21,22,23,24,25,26,27,28,29,30,31,32,33,34,35,36,37,38,39,40,41],[0,1,2,3,4,5,6,7,8,9,10,11,12,13,14,15,16,17,18,19,20,21,22,23,24,25,26,27,28,29,30,31,32,33,34,35,36,37,38,39,40,41,42],[0,1,2,3,4,5,6,7,8,9,10,11,12,13,14,15,16,17,18,19,20,21,22,23,24,25,26,27,28,29,30,31,32,33,34,35,36,37,38,39,40,41,42,43],[0,1,2,3,4,5,6,7,8,9,10,11,12,13,14,15,16,17,18,19,20,21,22,23,24,25,26,27,28,29,30,31,32,33,34,35,36,37,38,39,40,41,42,43,44],[0,1,2,3,4,5,6,7,8,9,10,11,12,13,14,15,16,17,18,19,20,21,22,23,24,25,26,27,28,29,30,31,32,33,34,35,36,37,38,39,40,41,42,43,44,45],[0,1,2,3,4,5,6,7,8,9,10,11,12,13,14,15,16,17,18,19,20,21,22,23,24,25,26,27,28,29,30,31,32,33,34,35,36,37,38,39,40,41,42,43,44,45,46],[0,1,2,3,4,5,6,7,8,9,10,11,12,13,14,15,16,17,18,19,20,21,22,23,24,25,26,27,28,29,30,31,32,33,34,35,36,37,38,39,40,41,42,43],[0,1,2,3,4,5,6,7,8,9,10,11,12,13,14,15,16,17,18,19,20,21,22,23,24,25,26,27,28,29,30,31,32,33,34,35,36,37,38,39,40,41,42,43],[0,1,2,3,4,5,6,7,8,9,10,11,12,13,14,15,16,17,18,19,20,21,22,23,24,25,26,27,28,29,30,31,32,33,34,35,36,37,38,39,40,41,42,43,49],[0,1,2,3,4,5,6,7,8,9,10,11,12,13,14,15,16,17,18,19,20,21,22,23,24,25,26,27,28,29,30,31,32,33,34,35,36,37,38,39,40,41,42,43,49,50],[0,1,2,3,4,5,6,7,8,9,10,11,12,13,14,15,16,17,18,19,20,21,22,23,24,25,26,27,28,29,30,31,32,33,34,35,36,37,38,39,40,41,42,43,49,50,51],[0,1,2,3,4,5,6,7,8,9,10,11,12,13,14,15,16,17,18,19,20,21,22,23,24,25,26,27,28,29,30,31,32,33,34,35,36,37,38,39,40,41,42,43,44,45,46,47,48,49,50,51,52],[0,1,2,3,4,5,6,7,8,9,10,11,12,13,14,15,16,17,18,19,20,21,22,23,24,25,26,27,28,29,30,31,32,33,34,35,36,37,38,39,40,41,42,43,44,45,46,47,48,49,50,51,52,53],[0,1,2,3,4,5,6,7,8,9,10,11,12,13,14,15,16,17,18,19,20,21,22,23,24,25,26,27,28,29,30,31,32,33,34,35,36,37,38,39,40,41,42,43,44,45,46,47,48,49,50,51,52,53,54]]
    [[],[],[],[],[],[],[],[],[],[],[],[],[],[],[],[],[],[],[],[],[],[],[],[],[],[],[],[],[],[],[],[],[],[],[],[],[],[],[],[],[],[],[],[],[],[],[],[],[],[],[],[],[],[],[],[]]
    [[],[],[],[],[],[],[],[],[],[],[],[],[],[],[],[],[],[],[],[],[],[],[],[],[],[],[],[],[],[],[],[],[],[],[],[],[],[],[],[],[],[],[],[],[],[],[],[],[],[],[],[],[],[],[],[]] (by kernel_rfl) (by kernel_rfl) (adrawR_ok (acc:=[]) ?_)
  simp (maxSteps:=2000000)only[go_sem]
  repeat' (with_reducible first | refine oD ?_ | refine oT (fun g3=>?_) (fun g3=>?_) | refine oE (fun g3=>?_) (fun g3=>?_))
  all_goals
   refine hK4 _ ?_
   refine AWP_ret ?_
   simp only[hres,go_sem]
   first
    | exact oF
    | refine ⟨?_,oF⟩
      clear hK1 hK2 hK3 hK4
      unfold linOkB
      first | rfl | (simp_all; done) | (by_cases z1:(la.length:Int)≤24<;>by_cases z2:(lc.length:Int)≤4<;>simp_all<;>first | done | (rw [decide_eq_false (show ¬ (lc.length:Int)≤4 by omega)]; simp; done) | (rw [decide_eq_false (show ¬ (la.length:Int)≤24 by omega)]; simp; done))
def T_l09Ok:Tab:=fun f=>if f=86 then some (.p K_l09Ok) else T_l09Rows f
theorem T_l09Ok_ok:TabOk Tryz.prog T_l09Ok:=tabP l09Ok_ok (fnOk_of Tryz.func86 rfl (by decide)) T_l09Rows_ok
attribute [go_sem] T_l09Ok K_l09Ok
def K_specVLin:Con:=⟨[.val ((.prod (.int .i64) (.prod (.row 26 (.row 2 (.int .i64))) (.prod (.row 26 (.row 2 (.int .i64))) (.prod (.row 26 (.row 2 (.int .i64))) (.row 26 (.row 2 (.int .i64))))))))],[⟨.bool,true⟩],fun _=>True,fun x=>linOkB x.1⟩
theorem specVLin_ok:PureT Tryz.prog 35 K_specVLin:=by
  refine pure_of_body Tryz.func35 rfl ?_
  have hres:Tryz.f35.results.toList=[.tmp 2]:=rfl
  rintro ⟨⟨(ni:Int),(la:List (List Int)),(lb:List (List Int)),(lc:List (List Int)),(ld:List (List Int))⟩,_⟩ hc hL
  simp only[K_specVLin,go_sem] at hL
  simp only[K_specVLin,St.init,St.initG,Tryz.ntmps35,go_sem] 
  refine oS fun _ hK1=>?_
  refine oW T_l09Ok_ok ?_
  simp only[go_sem]
  refine hK1 _ ?_
  refine oS fun _ hK2=>?_
  refine oW T_l09Ok_ok ?_
  simp only[List.nodup_cons,List.nodup_nil,List.not_mem_nil,not_false_eq_true,go_sem]
  repeat (with_reducible refine oA ?_)
  refine hK2 _ ?_
  refine AWP_ret ?_
  simp only[hres,go_sem]
  first | exact oF | exact oFr
def T_specVLin:Tab:=fun f=>if f=35 then some (.p K_specVLin) else T_l09Ok f
theorem T_specVLin_ok:TabOk Tryz.prog T_specVLin:=tabP specVLin_ok (fnOk_of Tryz.func35 rfl (by decide)) T_l09Ok_ok
attribute [go_sem] T_specVLin K_specVLin
def K_v8Long:Con:=⟨[.val ((.row 5 (.int .u8))),.val ((.row 5 (.int .u8)))],[⟨.bool,true⟩],fun _=>True,fun x=>decide (1048576 < (List.length x.1:Int)) || decide (1048576 < (List.length x.2.1:Int))⟩
theorem v8Long_ok:PureT Tryz.prog 31 K_v8Long:=by
  refine pure_of_body Tryz.func31 rfl ?_
  have hres:Tryz.f31.results.toList=[.tmp 4]:=rfl
  rintro ⟨(cd:List Int),(mr:List Int),_⟩ hc hL
  simp only[K_v8Long,go_sem] at hL
  simp only[K_v8Long,St.init,St.initG,Tryz.ntmps31,go_sem] 
  refine oS fun _ hK1=>?_
  refine oW T_specVLin_ok ?_
  simp only[go_sem]
  refine hK1 _ ?_
  refine oS fun _ hK2=>?_
  refine oW T_specVLin_ok ?_
  simp (maxSteps:=2000000)only[go_sem]
  repeat' (with_reducible first | refine oA ?_ | refine oT (fun g1=>?_) (fun g1=>?_) | refine oE (fun g1=>?_) (fun g1=>?_))
  all_goals
   refine hK2 _ ?_
   refine AWP_ret ?_
   simp only[hres,go_sem]
   first
    | exact oF
    | refine ⟨?_,oF⟩
      clear hK1 hK2
      first | rfl | (simp_all; done) | (rw [decide_eq_false (show ¬ (1048576:Int) < (cd.length:Int) by omega),Bool.false_or]; done) | (rw [decide_eq_false (show ¬ (1048576:Int) < (cd.length:Int) by omega),Bool.false_or]; rfl) | (rw [decide_eq_true (show (1048576:Int) < (cd.length:Int) by omega)]; simp; done)
def T_v8Long:Tab:=fun f=>if f=31 then some (.p K_v8Long) else T_specVLin f
theorem T_v8Long_ok:TabOk Tryz.prog T_v8Long:=tabP v8Long_ok (fnOk_of Tryz.func31 rfl (by decide)) T_specVLin_ok
attribute [go_sem] T_v8Long K_v8Long
end Go.Proofs.YtflaacndokbddaaGreat
