/-
  Texts of this claim, joined (part 39). No condition beyond those of the theorems.
-/
import Derived.Test.YtflaacndokbddaaGreatVd29
import Derived.Test.YtflaacndokbddaaGreatVd38
import Derived.Test.YtflaacndokbddaaGreatVd23
namespace Go.Proofs.YtflaacndokbddaaGreat
open Go.RowKit
set_option linter.unusedSimpArgs false
set_option linter.unusedVariables false
set_option maxRecDepth 100000
set_option maxHeartbeats 4000000
def T_mHn110:Tab:=fun f=>match T_convolve f with
 | some k=>some k
 | none=>T_implLinOf f
theorem T_mHn110_ok:TabOk Tryz.prog T_mHn110:=tabM T_convolve_ok T_implLinOf_ok
attribute [go_sem] T_mHn110 T0
def K_isTable:Con:=⟨[.val ((.row 26 (.row 2 (.int .i64)))),.val (.int .i64),.val (.int .i64)],[⟨.bool,true⟩],fun _=>True,fun x=>mtbB x.1 x.2.1 x.2.2.1⟩
theorem isTable_ok:PureT Tryz.prog 148 K_isTable:=by
  refine pure_of_body Tryz.func148 rfl ?_
  have hres:Tryz.f148.results.toList=[.tmp 6]:=rfl
  rintro ⟨(rs:List (List Int)),(m:Int),(w:Int),_⟩ hc hL
  simp only[K_isTable,go_sem] at hL
  obtain ⟨lrs,lrs2⟩:=hL
  simp only[K_isTable,St.init,St.initG,Tryz.ntmps148,go_sem] 
  refine oS fun _ hK1=>?_
  refine oW T_mHn110_ok ?_
  simp only[go_sem]
  refine hK1 _ ?_
  refine oS fun _ hK2=>?_
  refine oS fun _ hK3=>?_
  refine oW T_mHn110_ok ?_
  simp only[go_sem]
  repeat (with_reducible refine oA ?_)
  refine hK3 _ ?_
  refine oC rfl ?_ ?_
  ·
   intro c0
   refine oS fun _ hK4=>?_
   refine oW T_mHn110_ok ?_
   simp only[go_sem]
   refine hK4 _ ?_
   refine AWP_ret ?_
   simp only[hres,go_sem]
   first | exact oF | (refine ⟨?_,oF⟩; exact (mtbB_f (by first | assumption | omega)).symm)
  intro c0
  refine AWP_skip ?_
  simp only[go_sem]
  refine hK2 _ ?_
  refine oS fun _ hK5=>?_
  refine oS fun _ hK6=>?_
  refine oW T_mHn110_ok ?_
  simp only[go_sem]
  refine hK6 _ ?_
  refine AWP_block ?_
  refine AWP_loop_k (ι:={ k:Nat // k≤rs.length∧(rs.take k).all (rowB w)=true }) (fun k=>⟨[zz,zz,.c (.sc (.int .i64 (w))),zz,zz,zz,zz,zz,zz,zz,zz,zz,zz,.c (.rd [] 26 (.row 2 (.int .i64)) (rs)),.c (.sc (.int .i64 (rs.length))),.c (.sc (.int .i64 (k.1))),zz,zz,zz,zz,zz,zz,zz,zz,zz,zz,zz,zz,zz],[]⟩) (fun k=>rs.length - k.1) ⟨0,by simp⟩ ?_ ?_
  ·
   refine oK ?_
   simp (maxSteps:=2000000)only[go_sem]
   all_goals (first | rfl | ((repeat' refine And.intro ?_ ?_)<;>first | rfl | simp))
  rintro ⟨k,hk,hp⟩ K7 hL7
  refine oS fun _ hK8=>?_
  refine oW T_mHn110_ok ?_
  simp only[go_sem]
  refine hK8 _ ?_
  refine oS fun _ hK9=>?_
  refine oC rfl ?_ ?_
  ·
   intro c1
   refine AWP_skip ?_
   simp only[go_sem]
   refine hK9 _ ?_
   refine oS fun _ hK10=>?_
   refine AWP_block ?_
   refine oS fun _ hK11=>?_
   refine oW T_mHn110_ok ?_
   simp only[go_sem]
   repeat (with_reducible refine oA ?_)
   refine hK11 _ ?_
   refine oS fun _ hK12=>?_
   refine oW T_mHn110_ok ?_
   simp (maxSteps:=2000000)only[go_sem]
   repeat' (with_reducible first | refine oA ?_ | refine oT (fun g6=>?_) (fun g6=>?_) | refine oE (fun g6=>?_) (fun g6=>?_))
   all_goals
    refine hK12 _ ?_
    refine AWP_cond rfl ?_ ?_
    ·
     intro c2
     try simp only[zA,zB,zC,zD,zE,zF,zG,zH,zI] at c2
     all_goals
      have hqf:rowB w (rs.getD k [])=false:=by
        clear hK1 hK2 hK3 hK5 hK6 hL7 hK8 hK9 hK10 hK11 hK12
        unfold rowB
        first | (simp_all; done) | (by_cases z:((rs.getD k []).length:Int)=w<;>simp_all)
      refine oS fun _ hK13=>?_
      refine oW T_mHn110_ok ?_
      simp only[go_sem]
      refine hK13 _ ?_
      refine AWP_ret ?_
      simp only[hres,go_sem]
      first
       | exact oF
       | refine ⟨?_,oF⟩
         have hm:(rs.length:Int)=m:=by omega
         rw [mtbB_t hm]
         exact (all_stop (k:=k) (d:=[]) (by omega) hqf).symm
    ·
     intro c2
     try simp only[zA,zB,zC,zD,zE,zF,zG,zH,zI] at c2
     all_goals
      have hq:rowB w (rs.getD k [])=true:=by
        clear hK1 hK2 hK3 hK5 hK6 hL7 hK8 hK9 hK10 hK11 hK12
        unfold rowB
        simp_all
      refine AWP_skip ?_
      simp only[go_sem]
      refine hK10 _ ?_
      refine oW T_mHn110_ok ?_
      simp only[go_sem]
      refine hL7 ⟨k+1,by omega,all_next (d:=[]) (by omega) hp (by first | assumption | (clear hK1 hK2 hK3 hK5 hK6 hL7 hK8 hK9 hK10 hK11 hK12; simp_all))⟩ _ (oK ?_) ?_
      ·
       simp (maxSteps:=2000000)only[go_sem]
       first | rfl | exact wk (by omega)
      ·
       first | (simp only[]; omega) | omega | (simp; omega)
  intro c1
  refine AWP_exit ?_
  simp only[go_sem]
  refine hK5 _ ?_
  refine oS fun _ hK14=>?_
  refine oW T_mHn110_ok ?_
  simp only[go_sem]
  refine hK14 _ ?_
  refine AWP_ret ?_
  simp only[hres,go_sem]
  first
   | exact oF
   | refine ⟨?_,oF⟩
     have hm:(rs.length:Int)=m:=by omega
     rw [mtbB_t hm]
     exact (all_done hp (by omega)).symm
def T_isTable:Tab:=fun f=>if f=148 then some (.p K_isTable) else T_mHn110 f
theorem T_isTable_ok:TabOk Tryz.prog T_isTable:=tabP isTable_ok (fnOk_of Tryz.func148 rfl (by decide)) T_mHn110_ok
attribute [go_sem] T_isTable K_isTable
def K_implVLin:Con:=⟨[.val ((.prod (.int .i64) (.prod (.row 26 (.row 2 (.int .i64))) (.prod (.row 26 (.row 2 (.int .i64))) (.prod (.row 26 (.row 2 (.int .i64))) (.row 26 (.row 2 (.int .i64))))))))],[⟨.bool,true⟩],fun _=>True,fun x=>linOkB x.1⟩
theorem implVLin_ok:PureT Tryz.prog 88 K_implVLin:=by
  refine pure_of_body Tryz.func88 rfl ?_
  have hres:Tryz.f88.results.toList=[.tmp 2]:=rfl
  rintro ⟨⟨(ni:Int),(la:List (List Int)),(lb:List (List Int)),(lc:List (List Int)),(ld:List (List Int))⟩,_⟩ hc hL
  simp only[K_implVLin,go_sem] at hL
  simp only[K_implVLin,St.init,St.initG,Tryz.ntmps88,go_sem] 
  refine oS fun _ hK1=>?_
  refine oW T_isTable_ok ?_
  refine aseq_take 200 (by rfl) ?_
  simp only[go_sem]
  refine hK1 _ ?_
  refine oS fun _ hK2=>?_
  refine oR T_isTable_ok
    [[],[0],[0,1],[],[3],[0,1,2,3,4],[0,1,2,3,4,5],[0,1,2,3,4,5,6]]
    [[],[],[],[],[],[],[],[]]
    [[],[],[],[],[],[],[],[]] (by kernel_rfl) (by kernel_rfl) (adrawR_ok (acc:=[]) ?_)
  simp (maxSteps:=2000000)only[go_sem]
  repeat (with_reducible refine oD ?_)
  refine hK2 _ ?_
  refine oS fun _ hK3=>?_
  refine oW T_isTable_ok ?_
  refine aseq_take 200 (by rfl) ?_
  simp (maxSteps:=2000000)only[go_sem]
  repeat' (with_reducible first | refine oA ?_ | refine oT (fun g2=>?_) (fun g2=>?_) | refine oE (fun g2=>?_) (fun g2=>?_))
  all_goals
   refine hK3 _ ?_
   refine AWP_ret ?_
   simp only[hres,go_sem]
   first
    | exact oF
    | refine ⟨?_,oF⟩
      clear hK1 hK2 hK3
      unfold linOkB
      first | rfl | (simp_all; done) | (by_cases z1:(la.length:Int)≤24<;>by_cases z2:(lc.length:Int)≤4<;>simp_all<;>first | done | (rw [decide_eq_false (show ¬ (lc.length:Int)≤4 by omega)]; simp; done) | (rw [decide_eq_false (show ¬ (la.length:Int)≤24 by omega)]; simp; done))
def T_implVLin:Tab:=fun f=>if f=88 then some (.p K_implVLin) else T_isTable f
theorem T_implVLin_ok:TabOk Tryz.prog T_implVLin:=tabP implVLin_ok (fnOk_of Tryz.func88 rfl (by decide)) T_isTable_ok
attribute [go_sem] T_implVLin K_implVLin
def K_applied:Con:=⟨[.val ((.row 26 (.row 2 (.int .i64)))),.val ((.row 2 (.int .i64))),.val ((.row 26 (.row 2 (.int .i64)))),.val ((.row 2 (.int .i64)))],[⟨(.row 2 (.int .i64)),true⟩],fun x=>apOk x.1 x.2.2.1 x.2.1 x.2.2.2.1,fun x=>apM x.1 x.2.2.1 x.2.1 x.2.2.2.1⟩
theorem applied_ok:PureT Tryz.prog 91 K_applied:=by
  refine pure_of_body Tryz.func91 rfl ?_
  have hres:Tryz.f91.results.toList=[.tmp 8]:=rfl
  rintro ⟨(rs:List (List Int)),(xs:List Int),(ss:List (List Int)),(ys:List Int),_⟩ hc hL
  simp only[K_applied,go_sem] at hL
  simp only[K_applied,St.init,St.initG,Tryz.ntmps91,go_sem] 
  obtain ⟨h1,h2,h3,h4,h5,h6⟩:=(show apOk rs ss xs ys from hc)
  refine oS fun _ hK1=>?_
  refine oW T_implVLin_ok ?_
  simp only[go_sem]
  refine hK1 _ ?_
  refine oS fun _ hK2=>?_
  refine oW T_implVLin_ok ?_
  simp only[List.nodup_nil,go_sem]
  repeat (with_reducible refine oA ?_)
  refine hK2 _ ?_
  refine oS fun _ hK3=>?_
  refine oS fun _ hK4=>?_
  refine oW T_implVLin_ok ?_
  simp only[go_sem]
  refine hK4 _ ?_
  refine AWP_block ?_
  refine AWP_loop_k (ι:={ k:Nat // k≤rs.length }) (fun k=>⟨[zz,.c (.rd [] 2 (.int .i64) (xs)),.c (.rd [] 26 (.row 2 (.int .i64)) (ss)),.c (.rd [] 2 (.int .i64) (ys)),zz,zz,zz,zz,zz,.c (.ow 9009),zz,zz,zz,.c (.rd [] 26 (.row 2 (.int .i64)) (rs)),.c (.sc (.int .i64 (rs.length))),.c (.sc (.int .i64 (k.1))),zz,zz,zz,zz,zz,zz,zz,zz,zz,zz,zz,zz,zz,zz,zz,zz,zz,zz,zz,zz],[(9009,.row 2 (.int .i64) (apK rs ss xs ys k.1) [])]⟩) (fun k=>rs.length - k.1) ⟨0,by simp⟩ ?_ ?_
  ·
   refine oK ?_
   simp (maxSteps:=2000000)only[go_sem]
   all_goals (first | rfl | ((repeat' refine And.intro ?_ ?_)<;>first | rfl | simp))
  rintro ⟨k,hk⟩ K5 hL5
  have hkl:=apK_len rs ss xs ys k
  refine oS fun _ hK6=>?_
  refine oW T_implVLin_ok ?_
  simp only[go_sem]
  refine hK6 _ ?_
  refine oS fun _ hK7=>?_
  refine oC rfl ?_ ?_
  ·
   intro c0
   have hd1:(rs.getD k []).length≤xs.length∧(rs.getD k []).length≤1000000:=⟨h5 k (by omega),by have:=h5 k (by omega); omega⟩
   have hd2:(ss.getD k []).length≤ys.length∧(ss.getD k []).length≤1000000:=⟨h6 k (by omega),by have:=h6 k (by omega); omega⟩
   have hnx:=apK_next rs ss xs ys k
   refine AWP_skip ?_
   simp only[go_sem]
   refine hK7 _ ?_
   refine oS fun _ hK8=>?_
   refine AWP_block ?_
   refine oS fun _ hK9=>?_
   refine oW T_implVLin_ok ?_
   simp (maxSteps:=2000000)only[go_sem]
   repeat (with_reducible refine oA ?_)
   refine hK9 _ ?_
   refine oR T_implVLin_ok
     [[],[],[],[1,2],[],[],[4,5],[4,5,6],[],[1,2,3,4,5,6,7,8],[1,2,3,4,5,6,7,8,9],[1,2,3,4,5,6,7,8,9,10],[1,2,3,4,5,6,7,8,9,10,11],[0,1,2,3,4,5,6,7,8,9,10,11,12],[0,1,2,3,4,5,6,7,8,9,10,11,12,13]]
     [[612],[],[],[],[],[],[],[],[],[],[],[],[],[],[]]
     [[],[],[],[],[],[],[],[],[],[],[],[],[612],[],[]] (by kernel_rfl) (by kernel_rfl) (adrawR_ok (acc:=[]) ?_)
   simp (maxSteps:=2000000)only[hkl,w32_wrap,go_sem]
   repeat (with_reducible first | refine oD ?_ | refine And.intro (by first | exact hd1 | exact hd2 | omega) ?_)
   refine hK8 _ ?_
   refine oW T_implVLin_ok ?_
   simp only[go_sem]
   refine hL5 ⟨k+1,by omega⟩ _ (oK ?_) ?_
   ·
    simp (maxSteps:=2000000)only[go_sem]
    all_goals ((repeat' refine And.intro ?_ ?_)<;>first | rfl | exact wk (by omega) | exact hnx | (congr 1; exact hnx) | (congr 1; done))
   ·
    first | (simp only[]; omega) | omega | (simp; omega)
  intro c0
  have hke:k=rs.length:=by omega
  refine AWP_exit ?_
  simp only[go_sem]
  refine hK3 _ ?_
  refine oS fun _ hK10=>?_
  refine oW T_implVLin_ok ?_
  simp only[go_sem]
  refine hK10 _ ?_
  refine AWP_ret ?_
  simp only[hres,go_sem]
  first
   | exact oF
   | refine ⟨?_,oF⟩
     rw [hke]
     first | done | rfl
def T_applied:Tab:=fun f=>if f=91 then some (.p K_applied) else T_implVLin f
theorem T_applied_ok:TabOk Tryz.prog T_applied:=tabP applied_ok (fnOk_of Tryz.func91 rfl (by decide)) T_implVLin_ok
attribute [go_sem] T_applied K_applied
def K_stepLin:Con:=⟨[.val ((.prod (.int .i64) (.prod (.row 26 (.row 2 (.int .i64))) (.prod (.row 26 (.row 2 (.int .i64))) (.prod (.row 26 (.row 2 (.int .i64))) (.row 26 (.row 2 (.int .i64)))))))),.val ((.row 2 (.int .i64))),.val ((.row 2 (.int .i64)))],[⟨(.row 2 (.int .i64)),true⟩,⟨(.row 2 (.int .i64)),true⟩,⟨.int .i64,true⟩],fun x=>slOk x.1 x.2.1 x.2.2.1,fun x=>(apM x.1.2.1 x.1.2.2.1 x.2.1 x.2.2.1,apM x.1.2.2.2.1 x.1.2.2.2.2 x.2.1 x.2.2.1,0)⟩
theorem stepLin_ok:PureT Tryz.prog 37 K_stepLin:=by
  refine pure_of_body Tryz.func37 rfl ?_
  have hres:Tryz.f37.results.toList=[.tmp 6,.tmp 7,.tmp 8]:=rfl
  rintro ⟨⟨(ni:Int),(la:List (List Int)),(lb:List (List Int)),(lc:List (List Int)),(ld:List (List Int))⟩,(ss:List Int),(ff:List Int),_⟩ hc hL
  simp only[K_stepLin,go_sem] at hL
  simp only[K_stepLin,St.init,St.initG,Tryz.ntmps37,go_sem] 
  have hS:slOk (ni,la,lb,lc,ld) ss ff:=hc
  obtain ⟨hv,hW,hn1,hn2,hsl,hfl,hss,hff⟩:=hS
  obtain ⟨hap1,hap2⟩:=(show slOk (ni,la,lb,lc,ld) ss ff from hc).ap
  have hsl:ss.length=la.length:=hsl
  have hfl:(ff.length:Int)=ni:=hfl
  refine oS fun _ hK1=>?_
  refine oW T_applied_ok ?_
  simp only[go_sem]
  refine hK1 _ ?_
  refine oS fun _ hK2=>?_
  refine oS fun _ hK3=>?_
  refine oW T_applied_ok ?_
  simp only[List.nodup_cons,List.nodup_nil,List.not_mem_nil,not_false_eq_true,hv,go_sem]
  repeat (with_reducible refine oA ?_)
  refine hK3 _ ?_
  refine oC rfl ?_ ?_
  ·
   intro c0
   exfalso
   clear hK1 hK2 hK3
   simp_all
  intro c0
  refine AWP_skip ?_
  simp only[go_sem]
  refine hK2 _ ?_
  refine oS fun _ hK4=>?_
  refine oS fun _ hK5=>?_
  refine oR T_applied_ok
    [[],[0],[],[2],[2,3],[0,1,2,3,4],[0,1,2,3,4,5],[0,1,2,3,4,5,6],[0,1,2,3,4,5,6,7],[0,1,2,3,4,5,6],[0,1,2,3,4,5,6,9],[0,1,2,3,4,5,6,7,8,9,10],[0,1,2,3,4,5,6,7,8,9,10,11],[0,1,2,3,4,5,6,7,8,9,10,11,12],[0,1,2,3,4,5,6,7,8,9,10,11,12,13],[0,1,2,3,4,5,6,7,8,9,10,11,12,13,14],[0,1,2,3,4,5,6,7,8,9,10,11,12,13,14,15],[0,1,2,3,4,5,6,7,8,9,10,11,12,13,14,15,16],[0,1,2,3,4,5,6,7,8,9,10,11,12,13,14,15,16,17],[0,1,2,3,4,5,6,7,8,9,10,11,12,13,14,15,16,17,18],[0,1,2,3,4,5,6,7,8,9,10,11,12,13,14,15,16,17,18,19],[0,1,2,3,4,5,6,7,8,9,10,11,12,13,14,15,16,17,18,19,20],[0,1,2,3,4,5,6,7,8,9,10,11,12,13,14,15,16,17,18,19,20,21]]
    [[],[],[],[],[],[],[],[],[],[],[],[],[],[],[],[],[],[],[],[],[],[],[]]
    [[],[],[],[],[],[],[],[],[],[],[],[],[],[],[],[],[],[],[],[],[],[],[]] (by kernel_rfl) (by kernel_rfl) (adrawR_ok (acc:=[]) ?_)
  simp (maxSteps:=2000000)only[List.nodup_cons,List.nodup_nil,List.not_mem_nil,not_false_eq_true,hss,hff,hsl,hfl,go_sem]
  repeat' (with_reducible first | refine oD ?_ | refine oT (fun g3=>?_) (fun g3=>?_) | refine oE (fun g3=>?_) (fun g3=>?_))
  all_goals
   refine hK5 _ ?_
   refine AWP_cond rfl ?_ ?_
   ·
    intro c1
    try simp only[zA,zB,zC,zD,zE,zF,zG,zH,zI] at c1
    all_goals
     all_goals (exfalso; clear hK1 hK2 hK3 hK4 hK5; simp_all)
   ·
    intro c1
    try simp only[zA,zB,zC,zD,zE,zF,zG,zH,zI] at c1
    all_goals
     refine AWP_skip ?_
     simp only[go_sem]
     refine hK4 _ ?_
     refine oS fun _ hK6=>?_
     refine oR T_applied_ok
       [[],[0],[],[],[3],[],[0,1,2,3,4,5],[],[7],[],[],[10],[],[0,1,2,3,4,5,6,7,8,9,10,11,12],[0,1,2,3,4,5,6,7,8,9,10,11,12,13],[0,1,2,3,4,5,6,7,8,9,10,11,12,13,14],[0,1,2,3,4,5,6,7,8,9,10,11,12,13,14,15]]
       [[],[],[],[],[],[],[],[756,757,758,759,760,761,762,763,764,765,766,767,768,769,770,771],[756,757,758,759,760,761,762,763,764,765,766,767,768,769,770,771],[756,757,758,759,760,761,762,763,764,765,766,767,768,769,770,771],[756,757,758,759,760,761,762,763,764,765,766,767,768,769,770,771],[756,757,758,759,760,761,762,763,764,765,766,767,768,769,770,771],[756,757,758,759,760,761,762,763,764,765,766,767,768,769,770,771],[],[],[],[]]
       [[],[],[],[],[],[],[756,757,758,759,760,761,762,763,764,765,766,767,768,769,770,771],[],[],[],[],[],[],[],[],[],[]] (by kernel_rfl) (by kernel_rfl) (adrawR_ok (acc:=[]) ?_)
     simp (maxSteps:=2000000)only[List.nodup_cons,List.nodup_nil,List.not_mem_nil,not_false_eq_true,go_sem]
     repeat (with_reducible first | refine oD ?_ | refine And.intro (by first | exact hap1 | exact hap2) ?_)
     refine hK6 _ ?_
     refine AWP_ret ?_
     simp only[hres,go_sem]
     first | exact oF | (refine ⟨?_,oF⟩; first | exact ⟨rfl,rfl,rfl⟩ | rfl)
def T_stepLin:Tab:=fun f=>if f=37 then some (.p K_stepLin) else T_applied f
theorem T_stepLin_ok:TabOk Tryz.prog T_stepLin:=tabP stepLin_ok (fnOk_of Tryz.func37 rfl (by decide)) T_applied_ok
attribute [go_sem] T_stepLin K_stepLin
def K_implStC:Con:=⟨[.val ((.prod (.int .i64) (.prod (.row 26 (.row 2 (.int .i64))) (.prod (.row 90 (.prod (.int .i64) (.prod (.int .i64) (.prod (.int .i64) (.row 2 (.int .i64)))))) (.row 2 (.int .i64))))))],[⟨.int .i64,true⟩,⟨.int .i64,true⟩],fun _=>True,fun x=>scR x.1⟩
theorem implStC_ok:PureT Tryz.prog 33 K_implStC:=by
  refine pure_of_body Tryz.func33 rfl ?_
  have hres:Tryz.f33.results.toList=[.tmp 2,.tmp 3]:=rfl
  rintro ⟨⟨(pi:Int),(ts:List (List Int)),(ns:List NodeD),(os:List Int)⟩,_⟩ hc hL
  simp only[K_implStC,go_sem] at hL
  simp only[K_implStC,St.init,St.initG,Tryz.ntmps33,go_sem] 
  refine oS fun _ hK1=>?_
  refine oW T_stepLin_ok ?_
  simp only[go_sem]
  repeat (with_reducible first | refine oA ?_ | refine And.intro (by first | exact hF) ?_)
  refine hK1 _ ?_
  refine oS fun _ hK2=>?_
  refine oS fun _ hK3=>?_
  refine oW T_stepLin_ok ?_
  simp only[go_sem]
  repeat (with_reducible first | refine oA ?_ | refine And.intro (by first | exact hF) ?_)
  refine hK3 _ ?_
  refine oC rfl ?_ ?_
  ·
   intro c0
   refine oS fun _ hK4=>?_
   refine oW T_stepLin_ok ?_
   simp only[go_sem]
   repeat (with_reducible first | refine oA ?_ | refine And.intro (by first | exact hF) ?_)
   refine hK4 _ ?_
   refine AWP_ret ?_
   simp only[hres,go_sem]
   first
    | exact oF
    | refine ⟨?_,oF⟩
      rw [scR_f (by assumption)]
      first | exact ⟨rfl,rfl⟩ | done
  intro c0
  have hP:patchB (pi,ts,ns,os)=true:=by first | assumption | (clear hK1 hK2 hK3; simp_all)
  have hF:=(patchB_parts hP).1
  refine AWP_skip ?_
  simp only[go_sem]
  refine hK2 _ ?_
  refine oS fun _ hK5=>?_
  refine oW T_stepLin_ok ?_
  simp only[go_sem]
  repeat (with_reducible first | refine oA ?_ | refine And.intro (by first | exact hF) ?_)
  refine hK5 _ ?_
  refine AWP_ret ?_
  simp only[hres,go_sem]
  first
   | exact oF
   | refine ⟨?_,oF⟩
     rw [scR_t hP]
     first | exact ⟨rfl,rfl⟩ | done
def T_implStC:Tab:=fun f=>if f=33 then some (.p K_implStC) else T_stepLin f
theorem T_implStC_ok:TabOk Tryz.prog T_implStC:=tabP implStC_ok (fnOk_of Tryz.func33 rfl (by decide)) T_stepLin_ok
attribute [go_sem] T_implStC K_implStC
def K_implIsLin:Con:=⟨[.val ((.prod (.int .i64) (.prod (.row 26 (.row 2 (.int .i64))) (.prod (.row 90 (.prod (.int .i64) (.prod (.int .i64) (.prod (.int .i64) (.row 2 (.int .i64)))))) (.row 2 (.int .i64))))))],[⟨.bool,true⟩],fun _=>True,fun x=>patchB x.1 && linB x.1⟩
theorem implIsLin_ok:PureT Tryz.prog 34 K_implIsLin:=by
  refine pure_of_body Tryz.func34 rfl ?_
  have hres:Tryz.f34.results.toList=[.tmp 2]:=rfl
  rintro ⟨⟨(pi:Int),(ts:List (List Int)),(ns:List NodeD),(os:List Int)⟩,_⟩ hc hL
  simp only[K_implIsLin,go_sem] at hL
  simp only[K_implIsLin,St.init,St.initG,Tryz.ntmps34,go_sem] 
  refine oS fun _ hK1=>?_
  refine oW T_implStC_ok ?_
  simp only[go_sem]
  refine hK1 _ ?_
  refine oS fun _ hK2=>?_
  refine oW T_implStC_ok ?_
  simp (maxSteps:=2000000)only[go_sem]
  repeat' (with_reducible first | refine oA ?_ | refine And.intro (by first | exact (patchB_parts (by assumption)).1) ?_ | refine oT (fun g1=>?_) (fun g1=>?_) | refine oE (fun g1=>?_) (fun g1=>?_))
  all_goals
   refine hK2 _ ?_
   refine AWP_ret ?_
   simp only[hres,go_sem]
   first
    | exact oF
    | refine ⟨?_,oF⟩
      clear hK1 hK2
      first | rfl | (simp_all; done)
def T_implIsLin:Tab:=fun f=>if f=34 then some (.p K_implIsLin) else T_implStC f
theorem T_implIsLin_ok:TabOk Tryz.prog T_implIsLin:=tabP implIsLin_ok (fnOk_of Tryz.func34 rfl (by decide)) T_implStC_ok
attribute [go_sem] T_implIsLin K_implIsLin
end Go.Proofs.YtflaacndokbddaaGreat
