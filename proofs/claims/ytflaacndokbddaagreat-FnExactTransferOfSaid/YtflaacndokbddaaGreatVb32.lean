/-
  Texts of this claim, joined (part 32). No condition beyond those of the theorems.
-/
import Derived.Test.YtflaacndokbddaaGreatVb31
import Derived.Test.YtflaacndokbddaaGreatVb17
import Derived.Test.YtflaacndokbddaaGreatVb06
import Derived.Test.YtflaacndokbddaaGreatVb05
namespace Go.Proofs.YtflaacndokbddaaGreat
open Go.RowKit
set_option linter.unusedSimpArgs false
set_option linter.unusedVariables false
set_option maxRecDepth 100000
set_option maxHeartbeats 4000000
def K_l09Transfer:Con:=⟨[.ptr (.prod (.int .i64) (.prod (.row 26 (.row 2 (.int .i64))) (.prod (.row 26 (.row 2 (.int .i64))) (.prod (.row 26 (.row 2 (.int .i64))) (.row 26 (.row 2 (.int .i64))))))),.val (.int .i64),.val (.int .i64)],[⟨(.prod (.row 2 (.int .i64)) (.row 2 (.int .i64))),true⟩],fun x=>linW x.1 x.1.2.1.length∧x.1.2.1.length≤24∧x.1.2.2.2.1.length≤1000∧0≤x.2.1∧(0≤x.2.2.1∧x.2.2.1 < x.1.2.2.2.1.length),fun x=>trnL x.1 x.2.1 x.2.2.1⟩
theorem l09Transfer_ok:PureT Tryz.prog 92 K_l09Transfer:=by
  refine pure_of_body Tryz.func92 rfl ?_
  have hres:Tryz.f92.results.toList=[.cell 6 69]:=rfl
  rintro ⟨⟨(ni:Int),(la:List (List Int)),(lb:List (List Int)),(lc:List (List Int)),(ld:List (List Int))⟩,(ii:Int),(oo:Int),_⟩ hc hL
  simp only [K_l09Transfer,go_sem] at hL
  simp only [K_l09Transfer,St.init,St.initG,Tryz.ntmps92,go_sem] 
  obtain ⟨hW,ha1,hc1,hi0,⟨ho0,ho1⟩⟩:=(show linW (ni,la,lb,lc,ld) la.length∧la.length≤24∧lc.length≤1000∧0≤ii∧(0≤oo∧oo < lc.length) from hc)
  have hsq:rowsSq la:=⟨hW.a,by omega⟩
  have hdl:(chN la la.length).length=la.length+1:=chN_len _ _
  have hnr:inR ((la.length:Int)+1) 0 100000=true:=inR_t (by omega) (by omega)
  have hrc:linW (ni,la,lb,lc,ld) la.length∧la.length≤1000∧lc.length≤1000∧0≤ii∧(0≤oo∧oo < lc.length)∧inR ((la.length:Int)+1) 0 100000=true:=⟨hW,by omega,hc1,hi0,⟨ho0,ho1⟩,hnr⟩
  have hdc:(((chN la la.length).length:Nat):Int)=(la.length:Int)+1:=by omega
  have htn:Int.toNat ((la.length:Int)+1)=la.length+1:=by omega
  have hrl:(rspL (ni,la,lb,lc,ld) ii oo (la.length+1)).length=la.length+1:=rspL_len _ _ _ _
  have hmc:(chN la la.length).length≤400∧(rspL (ni,la,lb,lc,ld) ii oo (la.length+1)).length≤400:=⟨by omega,by omega⟩
  have hpl:(prodL (chN la la.length) (rspL (ni,la,lb,lc,ld) ii oo (la.length+1))).length≤1000:=by have h:=(trimL_len (convN (chN la la.length) (rspL (ni,la,lb,lc,ld) ii oo (la.length+1)) ((chN la la.length).length+(rspL (ni,la,lb,lc,ld) ii oo (la.length+1)).length))).2; rw [convN_len] at h; have h2:(prodL (chN la la.length) (rspL (ni,la,lb,lc,ld) ii oo (la.length+1)))=trimL (convN (chN la la.length) (rspL (ni,la,lb,lc,ld) ii oo (la.length+1)) ((chN la la.length).length+(rspL (ni,la,lb,lc,ld) ii oo (la.length+1)).length)):=rfl; rw [h2]; omega
  have hd1:(chN la la.length).length≤1000:=by omega
  have hpt:((prodL (chN la la.length) (rspL (ni,la,lb,lc,ld) ii oo (la.length+1))).take (la.length+1)).length≤1000:=by rw [List.length_take]; omega
  refine oS fun K1 hK1=>?_
  refine oW T_l09Response_ok ?_
  simp only [go_sem]
  refine hK1 _ ?_
  refine oS fun K2 hK2=>?_
  refine oW T_l09Response_ok ?_
  simp (maxSteps:=2000000) only [go_sem]
  repeat (with_reducible first | refine oA ?_ | refine And.intro (by first | exact hsq) ?_)
  refine hK2 _ ?_
  refine oS fun K3 hK3=>?_
  refine oW T_l09Response_ok ?_
  simp only [hdc,go_sem]
  refine hK3 _ ?_
  refine oS fun K4 hK4=>?_
  refine oW T_l09Response_ok ?_
  simp (maxSteps:=2000000) only [hdc,htn,go_sem]
  repeat (with_reducible first | refine oA ?_ | refine And.intro (by first | exact hrc | exact hmc) ?_)
  refine hK4 _ ?_
  refine oS fun K5 hK5=>?_
  refine oS fun K6 hK6=>?_
  refine oW T_l09Response_ok ?_
  simp only [go_sem]
  refine hK6 _ ?_
  refine oC rfl ?_ ?_
  ·
   intro c0
   refine oW T_l09Response_ok ?_
   simp only [htn,go_sem]
   repeat (with_reducible first | refine oA ?_ | refine And.intro (by first | omega) ?_)
   refine hK5 _ ?_
   refine oS fun K7 hK7=>?_
   refine oW T_l09Response_ok ?_
   simp (maxSteps:=2000000) only [List.nodup_cons,List.nodup_nil,List.not_mem_nil,not_false_eq_true,go_sem]
   repeat (with_reducible first | refine oA ?_ | refine And.intro (by first | exact hpl | exact hd1 | exact hpt) ?_)
   refine hK7 _ ?_
   refine AWP_ret ?_
   simp only [hres,go_sem]
   first
    | exact oF
    | refine ⟨?_,oF⟩
      have h1:=prodL_cut (chN la la.length) (rspL (ni,la,lb,lc,ld) ii oo (la.length+1)) (la.length+1)
      first | rw [h1] | rw [prodL_short (n:=la.length+1) (by omega)]
      first | done | rfl | exact ⟨rfl,rfl⟩
  intro c0
  refine AWP_skip ?_
  simp only [go_sem]
  refine hK5 _ ?_
  refine oS fun K8 hK8=>?_
  refine oW T_l09Response_ok ?_
  simp (maxSteps:=2000000) only [List.nodup_cons,List.nodup_nil,List.not_mem_nil,not_false_eq_true,go_sem]
  repeat (with_reducible first | refine oA ?_ | refine And.intro (by first | exact hpl | exact hd1 | exact hpt) ?_)
  refine hK8 _ ?_
  refine AWP_ret ?_
  simp only [hres,go_sem]
  first
   | exact oF
   | refine ⟨?_,oF⟩
     have h1:=prodL_cut (chN la la.length) (rspL (ni,la,lb,lc,ld) ii oo (la.length+1)) (la.length+1)
     first | rw [h1] | rw [prodL_short (n:=la.length+1) (by omega)]
     first | done | rfl | exact ⟨rfl,rfl⟩
def T_l09Transfer:Tab:=fun f=>if f=92 then some (.p K_l09Transfer) else T_l09Response f
theorem T_l09Transfer_ok:TabOk Tryz.prog T_l09Transfer:=tabP l09Transfer_ok (fnOk_of Tryz.func92 rfl (by decide)) T_l09Response_ok
attribute [go_sem] T_l09Transfer K_l09Transfer
def K_specTrnOf:Con:=⟨[.val ((.prod (.int .i64) (.prod (.row 26 (.row 2 (.int .i64))) (.prod (.row 90 (.prod (.int .i64) (.prod (.int .i64) (.prod (.int .i64) (.row 2 (.int .i64)))))) (.row 2 (.int .i64)))))),.val (.int .i64),.val (.int .i64)],[⟨(.prod (.row 2 (.int .i64)) (.row 2 (.int .i64))),true⟩,⟨.int .i64,true⟩],fun _=>True,fun x=>trnR x.1 x.2.1 x.2.2.1⟩
theorem specTrnOf_ok:PureT Tryz.prog 38 K_specTrnOf:=by
  refine pure_of_body Tryz.func38 rfl ?_
  have hres:Tryz.f38.results.toList=[.cell 6 69,.tmp 7]:=rfl
  rintro ⟨⟨(pi:Int),(ts:List (List Int)),(ns:List NodeD),(os:List Int)⟩,(ii:Int),(oo:Int),_⟩ hc hL
  simp only [K_specTrnOf,go_sem] at hL
  simp only [K_specTrnOf,St.init,St.initG,Tryz.ntmps38,go_sem] 
  rcases hlr:linR (pi,ts,ns,os) with ⟨⟨ni,la,lb,lc,ld⟩,cd⟩
  obtain ⟨hcd,hX0⟩:=linR_x hlr
  refine oS fun K1 hK1=>?_
  refine oW T_l09Transfer_ok ?_
  simp only [go_sem]
  refine hK1 _ ?_
  refine oS fun K2 hK2=>?_
  refine oW T_l09Transfer_ok ?_
  simp (maxSteps:=2000000) only [List.nodup_cons,List.nodup_nil,List.not_mem_nil,not_false_eq_true,hlr,go_sem]
  repeat (with_reducible refine oA ?_)
  refine hK2 _ ?_
  refine oS fun K3 hK3=>?_
  refine oS fun K4 hK4=>?_
  refine oW T_l09Transfer_ok ?_
  simp only [go_sem]
  refine hK4 _ ?_
  refine oC rfl ?_ ?_
  ·
   intro c0
   refine oS fun K5 hK5=>?_
   refine oW T_l09Transfer_ok ?_
   simp only [go_sem]
   repeat (with_reducible refine oA ?_)
   refine hK5 _ ?_
   refine AWP_ret ?_
   simp only [hres,go_sem]
   first
    | exact oF
    | refine ⟨?_,oF⟩
      have hl1:¬ linCode (pi,ts,ns,os)=0:=by omega
      first | (rw [trnR_f hl1,← hcd]; exact ⟨rfl,rfl⟩) | (rw [trnR_f hl1,← hcd]; done)
  intro c0
  have hl0:linCode (pi,ts,ns,os)=0:=by omega
  have hk:=linOk_of hl0
  have hX:=hX0 hl0
  obtain ⟨hW,ha1,hni,hlo,hsq⟩:=linOk_x hk hX
  have hni:ni=pi:=hni
  have hlo:lc.length=os.length:=hlo
  have hp4:0≤pi∧pi≤4:=hk.i4
  have ho4:os.length≤4:=hk.o4
  have hw1:IntKind.i64.wrap (ni - 1)=pi - 1:=by rw [wrapI (by omega)]; omega
  have hw2:IntKind.i64.wrap ((lc.length:Int) - 1)=(os.length:Int) - 1:=by rw [wrapI (by omega)]; omega
  refine AWP_skip ?_
  simp only [go_sem]
  refine hK3 _ ?_
  refine oS fun K6 hK6=>?_
  refine oS fun K7 hK7=>?_
  refine oW T_l09Transfer_ok ?_
  simp (maxSteps:=2000000) only [List.nodup_cons,List.nodup_nil,List.not_mem_nil,not_false_eq_true,hw1,hw2,go_sem]
  repeat' (with_reducible first | refine oA ?_ | refine oT (fun g4=>?_) (fun g4=>?_) | refine oE (fun g4=>?_) (fun g4=>?_))
  all_goals
   refine hK7 _ ?_
   refine AWP_cond rfl ?_ ?_
   ·
    intro c1
    try simp only [zA,zB,zC,zD,zE,zF,zG,zH,zI] at c1
    all_goals
     refine oS fun K8 hK8=>?_
     refine oW T_l09Transfer_ok ?_
     simp only [go_sem]
     repeat (with_reducible refine oA ?_)
     refine hK8 _ ?_
     refine AWP_ret ?_
     simp only [hres,go_sem]
     first
      | exact oF
      | refine ⟨?_,oF⟩
        have hKf:(inR ii 0 (pi - 1) && inR oo 0 ((os.length:Int) - 1))=false:=by clear hK1 hK2 hK3 hK4 hK6 hK7 hK8; simp_all
        first | (rw [trnR_2 hl0 hKf]; exact ⟨rfl,rfl⟩) | (rw [trnR_2 hl0 hKf]; done)
   ·
    intro c1
    try simp only [zA,zB,zC,zD,zE,zF,zG,zH,zI] at c1
    all_goals
     have hKt:(inR ii 0 (pi - 1) && inR oo 0 ((os.length:Int) - 1))=true:=by clear hK1 hK2 hK3 hK4 hK6 hK7; simp_all
     obtain ⟨k1,k2⟩:=Bool.and_eq_true_iff.1 hKt
     obtain ⟨i1,i2⟩:=inR_iff.1 k1
     obtain ⟨o1,o2⟩:=inR_iff.1 k2
     have hTc:linW (ni,la,lb,lc,ld) la.length∧la.length≤24∧lc.length≤1000∧0≤ii∧(0≤oo∧oo < lc.length):=⟨hW,ha1,by omega,i1,o1,by omega⟩
     refine AWP_skip ?_
     simp only [go_sem]
     refine hK6 _ ?_
     refine oS fun K9 hK9=>?_
     refine oW T_l09Transfer_ok ?_
     simp (maxSteps:=2000000) only [List.nodup_cons,List.nodup_nil,List.not_mem_nil,not_false_eq_true,go_sem]
     repeat (with_reducible first | refine oA ?_ | refine And.intro (by first | exact hTc) ?_)
     refine hK9 _ ?_
     refine AWP_ret ?_
     simp only [hres,go_sem]
     first | exact oF | (refine ⟨?_,oF⟩; first | (rw [trnR_0 hl0 hKt,hX]; exact ⟨rfl,rfl⟩) | (rw [trnR_0 hl0 hKt,hX]; done))
def T_specTrnOf:Tab:=fun f=>if f=38 then some (.p K_specTrnOf) else T_l09Transfer f
theorem T_specTrnOf_ok:TabOk Tryz.prog T_specTrnOf:=tabP specTrnOf_ok (fnOk_of Tryz.func38 rfl (by decide)) T_l09Transfer_ok
attribute [go_sem] T_specTrnOf K_specTrnOf
end Go.Proofs.YtflaacndokbddaaGreat
namespace Go.Proofs.YtflaacndokbddaaGreat
open Go.RowKit
set_option linter.unusedSimpArgs false
set_option linter.unusedVariables false
set_option maxRecDepth 100000
set_option maxHeartbeats 1000000
def K_clone:Con:=⟨[.val ((.row 2 (.int .i64)))],[⟨(.row 2 (.int .i64)),true⟩],fun x=>x.1.length≤1099511627776,fun x=>x.1⟩
theorem clone_ok:PureT Tryz.prog 112 K_clone:=by
  refine pure_of_body Tryz.func112 rfl ?_
  have hres:Tryz.f112.results.toList=[.tmp 2]:=rfl
  rintro ⟨(xs:List Int),_⟩ hc hL
  simp only [K_clone,go_sem] at hL
  simp only [K_clone,St.init,St.initG,Tryz.ntmps112,go_sem] 
  have hx:xs.length≤1099511627776:=hc
  refine oS fun K1 hK1=>?_
  refine oW T_kinds_ok ?_
  simp only [go_sem]
  refine hK1 _ ?_
  refine oS fun K2 hK2=>?_
  refine oW T_kinds_ok ?_
  simp only [go_sem]
  repeat (with_reducible refine oA ?_)
  refine hK2 _ ?_
  refine AWP_ret ?_
  simp only [hres,go_sem]
  first | exact oF | exact oFr
def T_clone:Tab:=fun f=>if f=112 then some (.p K_clone) else T_kinds f
theorem T_clone_ok:TabOk Tryz.prog T_clone:=tabP clone_ok (fnOk_of Tryz.func112 rfl (by decide)) T_kinds_ok
attribute [go_sem] T_clone K_clone
def K_clones:Con:=⟨[.val ((.row 26 (.row 2 (.int .i64))))],[⟨(.row 26 (.row 2 (.int .i64))),true⟩],fun x=>fitsL x.1,fun x=>x.1⟩
theorem clones_ok:PureT Tryz.prog 51 K_clones:=by
  refine pure_of_body Tryz.func51 rfl ?_
  have hres:Tryz.f51.results.toList=[.tmp 2]:=rfl
  rintro ⟨(xs:List (List Int)),_⟩ hc hL
  simp only [K_clones,go_sem] at hL
  simp only [K_clones,St.init,St.initG,Tryz.ntmps51,go_sem] 
  obtain ⟨hx,hy⟩:=(show fitsL xs from hc)
  refine oS fun K1 hK1=>?_
  refine oW T_clone_ok ?_
  simp only [go_sem]
  refine hK1 _ ?_
  refine oS fun K2 hK2=>?_
  refine oW T_clone_ok ?_
  simp only [List.nodup_nil,go_sem]
  repeat (with_reducible refine oA ?_)
  refine hK2 _ ?_
  refine oS fun K3 hK3=>?_
  refine oS fun K4 hK4=>?_
  refine oW T_clone_ok ?_
  simp only [go_sem]
  refine hK4 _ ?_
  refine AWP_block ?_
  refine AWP_loop_k (ι:={ k:Nat // k≤xs.length }) (fun k=>⟨[zz,zz,zz,.c (.ow 9001),zz,zz,zz,.c (.rd [] 26 (.row 2 (.int .i64)) (xs)),.c (.sc (.int .i64 (xs.length))),.c (.sc (.int .i64 (k.1))),zz,zz,zz,zz,zz,zz,zz,zz,zz,zz],[(9001,.tree 26 (.row 2 (.int .i64)) (xs.take k.1) none)]⟩) (fun k=>xs.length - k.1) ⟨0,by simp⟩ ?_ ?_
  ·
   refine oK ?_
   simp (maxSteps:=2000000) only [go_sem]
   all_goals (first | rfl | ((repeat' refine And.intro ?_ ?_)<;>first | rfl | simp))
  rintro ⟨k,hk⟩ K5 hL5
  have htk:(List.take k xs).length≤1099511627776:=by rw [List.length_take]; omega
  have hyk:k < xs.length→(xs.getD k []).length≤1099511627776:=fun h=>hy _ (getD_mem h)
  refine oS fun K6 hK6=>?_
  refine oW T_clone_ok ?_
  simp only [go_sem]
  refine hK6 _ ?_
  refine oS fun K7 hK7=>?_
  refine oC rfl ?_ ?_
  ·
   intro c0
   refine AWP_skip ?_
   simp only [go_sem]
   refine hK7 _ ?_
   refine oS fun K8 hK8=>?_
   refine AWP_block ?_
   refine oS fun K9 hK9=>?_
   refine oW T_clone_ok ?_
   simp only [go_sem]
   repeat (with_reducible refine oA ?_)
   refine hK9 _ ?_
   refine oW T_clone_ok ?_
   simp (maxSteps:=2000000) only [List.nodup_cons,List.nodup_nil,List.not_mem_nil,not_false_eq_true,go_sem]
   repeat (with_reducible first | refine oA ?_ | refine And.intro (by first | omega) ?_)
   refine hK8 _ ?_
   refine oW T_clone_ok ?_
   simp only [go_sem]
   refine hL5 ⟨k+1,by omega⟩ _ (oK ?_) ?_
   ·
    simp (maxSteps:=2000000) only [go_sem]
    all_goals first | rfl | exact wk (by omega) | exact ⟨wk (by omega),by rw [take_next (xs:=xs) (k:=k) (d:=[]) (by omega)]⟩
   ·
    first | (simp only []; omega) | omega | (simp; omega)
  intro c0
  refine AWP_exit ?_
  simp only [go_sem]
  refine hK3 _ ?_
  refine oS fun K10 hK10=>?_
  refine oW T_clone_ok ?_
  simp only [go_sem]
  refine hK10 _ ?_
  refine AWP_ret ?_
  simp only [hres,go_sem]
  first | exact oF | (refine ⟨?_,oF⟩; exact List.take_of_length_le (by omega))
def T_clones:Tab:=fun f=>if f=51 then some (.p K_clones) else T_clone f
theorem T_clones_ok:TabOk Tryz.prog T_clones:=tabP clones_ok (fnOk_of Tryz.func51 rfl (by decide)) T_clone_ok
attribute [go_sem] T_clones K_clones
def T_shiftedNode:Tab:=T_clones
attribute [go_sem] T_shiftedNode
end Go.Proofs.YtflaacndokbddaaGreat
