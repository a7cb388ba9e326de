/-
  Texts of this claim, joined (part 8). No condition beyond those of the theorems.
-/
import Derived.Test.YtflaacndokbddaaGreatVb05
namespace Go.Proofs.YtflaacndokbddaaGreat
open Go.RowKit
set_option linter.unusedSimpArgs false
set_option linter.unusedVariables false
set_option maxRecDepth 100000
set_option maxHeartbeats 4000000
def K_markI:GCon where
  ps:=[.ow 0,.val (.int .i64)]
  os:=[.row 2 (.int .i64)]
  c:=fun x=>mkOk x.1.2.1 (List.length x.2.1)
  r:=fun x=>.c (.sc (.int .i64 (x.1.2.1+((List.length x.2.1:Nat):Int))))
  o:=fun x=>[(30,.row 2 (.int .i64) (markA mkI ctI x.1.2.1 x.2.1) [])]
  ok:=by
    rintro ⟨⟨_,(kk:Int),_⟩,⟨(xs:List Int),_⟩⟩
    exact ⟨rfl,rfl,by decide⟩
theorem markI_ok:GenT Tryz.prog 81 K_markI:=by
  refine gen_of_body Tryz.func81 rfl ?_
  have hres:Tryz.f81.results.toList=[.tmp 4]:=rfl
  rintro ⟨⟨_,(kk:Int),_⟩,⟨(xs:List Int),_⟩⟩ hc hL hO
  simp only [K_markI,go_sem] at hL
  simp only [K_markI,go_sem] at hO
  simp only [K_markI,St.init,St.initG,Tryz.ntmps81,go_sem] 
  obtain ⟨h1,h2⟩:=(show mkOk kk (List.length xs) from hc)
  have hci:cntA ctI xs=xs.length:=cntI xs
  refine oS fun K1 hK1=>?_
  refine oW T0_ok ?_
  simp only [go_sem]
  refine hK1 _ ?_
  refine oS fun K2 hK2=>?_
  refine oS fun K3 hK3=>?_
  refine oW T0_ok ?_
  simp only [go_sem]
  refine hK3 _ ?_
  refine AWP_block ?_
  refine AWP_loop_k (ι:={ k:Nat // k≤xs.length }) (fun k=>⟨[.c (.ow 30),.c (.sc (.int .i64 (kk+(cntA ctI (xs.take k.1):Nat)))),zz,zz,zz,.c (.sc (.int .i64 (k.1))),zz,zz,zz,zz,zz,zz,zz,zz,zz,zz,zz,zz,zz],[(30,.row 2 (.int .i64) (markT mkI ctI kk xs k.1) [])]⟩) (fun k=>xs.length - k.1) ⟨0,by simp⟩ ?_ ?_
  ·
   refine oK ?_
   simp (maxSteps:=2000000) only [go_sem]
   all_goals (first | rfl | ((repeat' refine And.intro ?_ ?_)<;>first | rfl | exact markT_zero.symm | (simp [cntA]; done) | (rw [markT_zero])))
  rintro ⟨k,hk⟩ K4 hL4
  have hml:(markT mkI ctI kk xs k).length=xs.length:=markT_len hk
  have hma:k < xs.length→(markT mkI ctI kk xs k).getD k (0:Int)=xs.getD k (0:Int):=fun h=>markT_at _ h
  have hms:k < xs.length→(markT mkI ctI kk xs k).set k (mkI (kk+(cntA ctI (xs.take k):Nat)) (xs.getD k (0:Int)))=markT mkI ctI kk xs (k+1):=fun h=>markT_set _ h
  have hnx:k < xs.length→cntA ctI (xs.take (k+1))=cntA ctI (xs.take k)+ctI (xs.getD k (0:Int)):=fun h=>cntA_next _ h
  have hle:cntA ctI (xs.take (k+1))≤cntA ctI xs:=cntA_take _
  have hww:k < xs.length→IntKind.i64.wrap (kk+(cntA ctI (xs.take k):Nat)+1)=kk+(cntA ctI (xs.take (k+1)):Nat):=fun h=>by rw [wrapI (by have:=hnx h; simp only [ctI] at this; omega),hnx h]; simp only [ctI]; omega
  refine oS fun K5 hK5=>?_
  refine oS fun K6 hK6=>?_
  refine oW T0_ok ?_
  simp only [go_sem]
  refine hK6 _ ?_
  refine oC rfl ?_ ?_
  ·
   intro c0
   refine AWP_skip ?_
   simp only [go_sem]
   refine hK5 _ ?_
   refine oS fun K7 hK7=>?_
   refine AWP_block ?_
   refine oS fun K8 hK8=>?_
   refine oW T0_ok ?_
   simp (maxSteps:=2000000) only [go_sem]
   repeat (with_reducible refine oA ?_)
   refine hK8 _ ?_
   refine oW T0_ok ?_
   simp only [go_sem]
   refine hK7 _ ?_
   refine oW T0_ok ?_
   simp only [go_sem]
   refine hL4 ⟨k+1,by omega⟩ _ (oK ?_) ?_
   ·
    simp (maxSteps:=2000000) only [go_sem]
    all_goals (first | rfl | ((repeat' refine And.intro ?_ ?_)<;>first | rfl | exact wk (by omega) | exact hww (by omega) | exact hms (by omega)))
   ·
    first | (simp only []; omega) | omega | (simp; omega)
  intro c0
  refine AWP_exit ?_
  simp only [go_sem]
  refine hK2 _ ?_
  refine oS fun K9 hK9=>?_
  refine oW T0_ok ?_
  simp only [go_sem]
  refine hK9 _ ?_
  refine AWP_ret ?_
  simp only [hres,go_sem]
  first
   | exact oG
   | refine ⟨oG,?_⟩
     have hk3:cntA ctI (xs.take k)=cntA ctI xs:=by rw [List.take_of_length_le (l:=xs) (i:=k) (by omega)]
     (repeat' refine And.intro ?_ ?_)<;>first | rfl | exact markT_all (by omega) | (congr 1; exact markT_all (by omega)) | (rw [hk3]; rw [cntI]) | omega
def T_markI:Tab:=fun f=>if f=81 then some (.g K_markI) else T0 f
theorem T_markI_ok:TabOk Tryz.prog T_markI:=tabG markI_ok (fnOk_of Tryz.func81 rfl (by decide)) T0_ok
attribute [go_sem] T_markI K_markI
def K_markL:GCon where
  ps:=[.ow 0,.val (.int .i64)]
  os:=[.tree 26 (.row 2 (.int .i64))]
  c:=fun x=>mkOk x.1.2.1 (cntA List.length x.2.1)
  r:=fun x=>.c (.sc (.int .i64 (x.1.2.1+((cntA List.length x.2.1:Nat):Int))))
  o:=fun x=>[(30,.tree 26 (.row 2 (.int .i64)) (markA markL List.length x.1.2.1 x.2.1) none)]
  ok:=by
    rintro ⟨⟨_,(kk:Int),_⟩,⟨(xs:List (List Int)),_⟩⟩
    exact ⟨rfl,rfl,by decide⟩
theorem markL_ok:GenT Tryz.prog 79 K_markL:=by
  refine gen_of_body Tryz.func79 rfl ?_
  have hres:Tryz.f79.results.toList=[.tmp 4]:=rfl
  rintro ⟨⟨_,(kk:Int),_⟩,⟨(xs:List (List Int)),_⟩⟩ hc hL hO
  simp only [K_markL,go_sem] at hL
  simp only [K_markL,go_sem] at hO
  simp only [K_markL,St.init,St.initG,Tryz.ntmps79,go_sem] 
  obtain ⟨h1,h2⟩:=(show mkOk kk (cntA List.length xs) from hc)
  refine oS fun K1 hK1=>?_
  refine oW T_markI_ok ?_
  simp only [go_sem]
  refine hK1 _ ?_
  refine oS fun K2 hK2=>?_
  refine oS fun K3 hK3=>?_
  refine oW T_markI_ok ?_
  simp only [go_sem]
  refine hK3 _ ?_
  refine AWP_block ?_
  refine AWP_loop_k (ι:={ k:Nat // k≤xs.length }) (fun k=>⟨[.c (.ow 30),.c (.sc (.int .i64 (kk+(cntA List.length (xs.take k.1):Nat)))),zz,zz,zz,.c (.sc (.int .i64 (k.1))),zz,zz,zz,zz,zz,zz,zz,zz,zz,zz,zz,zz,zz],[(30,.tree 26 (.row 2 (.int .i64)) (markT markL List.length kk xs k.1) none)]⟩) (fun k=>xs.length - k.1) ⟨0,by simp⟩ ?_ ?_
  ·
   refine oK ?_
   simp (maxSteps:=2000000) only [go_sem]
   all_goals (first | rfl | ((repeat' refine And.intro ?_ ?_)<;>first | rfl | exact markT_zero.symm | (simp [cntA]; done) | (rw [markT_zero])))
  rintro ⟨k,hk⟩ K4 hL4
  have hml:(markT markL List.length kk xs k).length=xs.length:=markT_len hk
  have hma:k < xs.length→(markT markL List.length kk xs k).getD k ([]:List Int)=xs.getD k ([]:List Int):=fun h=>markT_at _ h
  have hms:k < xs.length→(markT markL List.length kk xs k).set k (markL (kk+(cntA List.length (xs.take k):Nat)) (xs.getD k ([]:List Int)))=markT markL List.length kk xs (k+1):=fun h=>markT_set _ h
  have hnx:k < xs.length→cntA List.length (xs.take (k+1))=cntA List.length (xs.take k)+List.length (xs.getD k ([]:List Int)):=fun h=>cntA_next _ h
  have hle:cntA List.length (xs.take (k+1))≤cntA List.length xs:=cntA_take _
  refine oS fun K5 hK5=>?_
  refine oS fun K6 hK6=>?_
  refine oW T_markI_ok ?_
  simp only [go_sem]
  refine hK6 _ ?_
  refine oC rfl ?_ ?_
  ·
   intro c0
   refine AWP_skip ?_
   simp only [go_sem]
   refine hK5 _ ?_
   refine oS fun K7 hK7=>?_
   refine AWP_block ?_
   refine oW T_markI_ok ?_
   simp (maxSteps:=2000000) only [hml,go_sem]
   repeat (with_reducible first | refine oA ?_ | refine And.intro (by first | first | exact ⟨by omega,by omega⟩ | (rw [hma (by omega)]; exact ⟨by omega,by omega⟩)) ?_)
   refine hK7 _ ?_
   refine oW T_markI_ok ?_
   simp only [go_sem]
   refine hL4 ⟨k+1,by omega⟩ _ (oK ?_) ?_
   ·
    simp (maxSteps:=2000000) only [go_sem]
    have hq:=hnx (by omega)
    all_goals (first | rfl | ((repeat' refine And.intro ?_ ?_)<;>first | rfl | exact wk (by omega) | (congr 1; exact hms (by omega)) | (rw [hma (by omega)]; exact hms (by omega)) | (rw [hma (by omega)]; congr 1; exact hms (by omega)) | (rw [hma (by omega)]; omega) | omega))
   ·
    first | (simp only []; omega) | omega | (simp; omega)
  intro c0
  refine AWP_exit ?_
  simp only [go_sem]
  refine hK2 _ ?_
  refine oS fun K8 hK8=>?_
  refine oW T_markI_ok ?_
  simp only [go_sem]
  refine hK8 _ ?_
  refine AWP_ret ?_
  simp only [hres,go_sem]
  first
   | exact oG
   | refine ⟨oG,?_⟩
     have hk3:cntA List.length (xs.take k)=cntA List.length xs:=by rw [List.take_of_length_le (l:=xs) (i:=k) (by omega)]
     (repeat' refine And.intro ?_ ?_)<;>first | rfl | exact markT_all (by omega) | (congr 1; exact markT_all (by omega)) | (rw [hk3]) | omega
def T_markL:Tab:=fun f=>if f=79 then some (.g K_markL) else T_markI f
theorem T_markL_ok:TabOk Tryz.prog T_markL:=tabG markL_ok (fnOk_of Tryz.func79 rfl (by decide)) T_markI_ok
attribute [go_sem] T_markL K_markL
def K_heldI:Con:=⟨[.val ((.row 2 (.int .i64))),.val (.int .i64)],[⟨.int .i64,true⟩],fun x=>mkOk x.2.1 (cntA ctI x.1),fun x=>heldA mkI ctI x.2.1 x.1⟩
theorem heldI_ok:PureT Tryz.prog 95 K_heldI:=by
  refine pure_of_body Tryz.func95 rfl ?_
  have hres:Tryz.f95.results.toList=[.tmp 4]:=rfl
  rintro ⟨(xs:List Int),(kk:Int),_⟩ hc hL
  simp only [K_heldI,go_sem] at hL
  obtain lxs:=hL
  simp only [K_heldI,St.init,St.initG,Tryz.ntmps95,go_sem] 
  obtain ⟨h1,h2⟩:=(show mkOk kk (cntA ctI xs) from hc)
  refine oS fun K1 hK1=>?_
  refine oW T_markL_ok ?_
  simp only [go_sem]
  refine hK1 _ ?_
  refine oS fun K2 hK2=>?_
  refine oS fun K3 hK3=>?_
  refine oW T_markL_ok ?_
  simp only [go_sem]
  refine hK3 _ ?_
  refine AWP_block ?_
  refine AWP_loop_k (ι:={ k:Nat // k≤xs.length∧xs.take k=markA mkI ctI kk (xs.take k) }) (fun k=>⟨[.c (.rd [] 2 (.int .i64) (xs)),.c (.sc (.int .i64 (kk+(cntA ctI (xs.take k.1):Nat)))),zz,zz,zz,.c (.sc (.int .i64 (k.1))),zz,zz,zz,zz,zz,zz,zz,zz,zz,zz,zz,zz,zz,zz,zz],[]⟩) (fun k=>xs.length - k.1) ⟨0,by simp,by simp [markA]⟩ ?_ ?_
  ·
   refine oK ?_
   simp (maxSteps:=2000000) only [go_sem]
   all_goals (first | rfl | ((repeat' refine And.intro ?_ ?_)<;>first | rfl | (simp [cntA]; done)))
  rintro ⟨k,hk,hp⟩ K4 hL4
  have hnx:k < xs.length→cntA ctI (xs.take (k+1))=cntA ctI (xs.take k)+ctI (xs.getD k (0:Int)):=fun h=>cntA_next _ h
  have hle:cntA ctI (xs.take (k+1))≤cntA ctI xs:=cntA_take _
  have hww:k < xs.length→IntKind.i64.wrap (kk+(cntA ctI (xs.take k):Nat)+1)=kk+(cntA ctI (xs.take (k+1)):Nat):=fun h=>by rw [wrapI (by have:=hnx h; simp only [ctI] at this; omega),hnx h]; simp only [ctI]; omega
  refine oS fun K5 hK5=>?_
  refine oS fun K6 hK6=>?_
  refine oW T_markL_ok ?_
  simp only [go_sem]
  refine hK6 _ ?_
  refine oC rfl ?_ ?_
  ·
   intro c0
   refine AWP_skip ?_
   simp only [go_sem]
   refine hK5 _ ?_
   refine oS fun K7 hK7=>?_
   refine AWP_block ?_
   refine oS fun K8 hK8=>?_
   refine oS fun K9 hK9=>?_
   refine oW T_markL_ok ?_
   simp (maxSteps:=2000000) only [go_sem]
   repeat (with_reducible refine oA ?_)
   refine hK9 _ ?_
   refine oC rfl ?_ ?_
   ·
    intro c1
    refine oS fun K10 hK10=>?_
    refine oW T_markL_ok ?_
    simp only [go_sem]
    refine hK10 _ ?_
    refine AWP_ret ?_
    simp only [hres,go_sem]
    first | exact oF | (refine ⟨?_,oF⟩; exact (held_stop (0:Int) (m:=k) (by omega) (by first | assumption | omega)).symm)
   intro c1
   have hq:xs.getD k 0=mkI (kk+(cntA ctI (xs.take k):Nat)) (xs.getD k 0):=by first | assumption | omega
   refine AWP_skip ?_
   simp only [go_sem]
   refine hK8 _ ?_
   refine oW T_markL_ok ?_
   simp only [go_sem]
   refine hK7 _ ?_
   refine oW T_markL_ok ?_
   simp only [go_sem]
   refine hL4 ⟨k+1,by omega,held_next (0:Int) (by omega) hp hq⟩ _ (oK ?_) ?_
   ·
    simp (maxSteps:=2000000) only [go_sem]
    all_goals (first | rfl | ((repeat' refine And.intro ?_ ?_)<;>first | rfl | exact wk (by omega) | exact hww (by omega)))
   ·
    first | (simp only []; omega) | omega | (simp; omega)
  intro c0
  refine AWP_exit ?_
  simp only [go_sem]
  refine hK2 _ ?_
  refine oS fun K11 hK11=>?_
  refine oW T_markL_ok ?_
  simp only [go_sem]
  refine hK11 _ ?_
  refine AWP_ret ?_
  simp only [hres,go_sem]
  first | exact oF | (refine ⟨?_,oF⟩; rw [held_done (m:=k) (by omega) hp,List.take_of_length_le (by omega)])
def T_heldI:Tab:=fun f=>if f=95 then some (.p K_heldI) else T_markL f
theorem T_heldI_ok:TabOk Tryz.prog T_heldI:=tabP heldI_ok (fnOk_of Tryz.func95 rfl (by decide)) T_markL_ok
attribute [go_sem] T_heldI K_heldI
def T_heldL:Tab:=T_heldI
theorem T_heldL_ok:TabOk Tryz.prog T_heldL:=T_heldI_ok
attribute [go_sem] T_heldL
end Go.Proofs.YtflaacndokbddaaGreat
namespace Go.Proofs.YtflaacndokbddaaGreat
open Go.RowKit
set_option linter.unusedSimpArgs false
set_option linter.unusedVariables false
set_option maxRecDepth 100000
set_option maxHeartbeats 4000000
def K_markNs:GCon where
  ps:=[.ow 0,.val (.int .i64)]
  os:=[.tree 90 (.prod (.int .i64) (.prod (.int .i64) (.prod (.int .i64) (.row 2 (.int .i64)))))]
  c:=fun x=>mkOk x.1.2.1 (cntA ctN x.2.1)
  r:=fun x=>.c (.sc (.int .i64 (x.1.2.1+((cntA ctN x.2.1:Nat):Int))))
  o:=fun x=>[(30,.tree 90 (.prod (.int .i64) (.prod (.int .i64) (.prod (.int .i64) (.row 2 (.int .i64))))) (markA mkN ctN x.1.2.1 x.2.1) none)]
  ok:=by
    rintro ⟨⟨_,(kk:Int),_⟩,⟨(xs:List NodeD),_⟩⟩
    exact ⟨rfl,rfl,by decide⟩
theorem markNs_ok:GenT Tryz.prog 80 K_markNs:=by
  refine gen_of_body Tryz.func80 rfl ?_
  have hres:Tryz.f80.results.toList=[.tmp 4]:=rfl
  rintro ⟨⟨_,(kk:Int),_⟩,⟨(xs:List NodeD),_⟩⟩ hc hL hO
  simp only [K_markNs,go_sem] at hL
  simp only [K_markNs,go_sem] at hO
  simp only [K_markNs,St.init,St.initG,Tryz.ntmps80,go_sem] 
  obtain ⟨h1,h2⟩:=(show mkOk kk (cntA ctN xs) from hc)
  refine oS fun K1 hK1=>?_
  refine oW T_heldL_ok ?_
  simp only [go_sem]
  refine hK1 _ ?_
  refine oS fun K2 hK2=>?_
  refine oS fun K3 hK3=>?_
  refine oW T_heldL_ok ?_
  simp only [go_sem]
  refine hK3 _ ?_
  refine AWP_block ?_
  refine AWP_loop_k (ι:={ k:Nat // k≤xs.length }) (fun k=>⟨[.c (.ow 30),.c (.sc (.int .i64 (kk+(cntA ctN (xs.take k.1):Nat)))),zz,zz,zz,.c (.sc (.int .i64 (k.1))),zz,zz,zz,zz,zz,zz,zz,zz,zz,zz,zz,zz,zz,zz,zz,zz,zz,zz,zz,zz,zz,zz,zz,zz,zz,zz,zz,zz,zz,zz,zz,zz,zz,zz,zz],[(30,.tree 90 (.prod (.int .i64) (.prod (.int .i64) (.prod (.int .i64) (.row 2 (.int .i64))))) (markT mkN ctN kk xs k.1) none)]⟩) (fun k=>xs.length - k.1) ⟨0,by simp⟩ ?_ ?_
  ·
   refine oK ?_
   simp (maxSteps:=2000000) only [go_sem]
   all_goals (first | rfl | ((repeat' refine And.intro ?_ ?_)<;>first | rfl | exact markT_zero.symm | (simp [cntA]; done) | (rw [markT_zero])))
  rintro ⟨k,hk⟩ K4 hL4
  have hml:(markT mkN ctN kk xs k).length=xs.length:=markT_len hk
  have hma:k < xs.length→(markT mkN ctN kk xs k).getD k ((0,0,0,[]):NodeD)=xs.getD k ((0,0,0,[]):NodeD):=fun h=>markT_at _ h
  have hms:k < xs.length→(markT mkN ctN kk xs k).set k (mkN (kk+(cntA ctN (xs.take k):Nat)) (xs.getD k ((0,0,0,[]):NodeD)))=markT mkN ctN kk xs (k+1):=fun h=>markT_set _ h
  have hnx:k < xs.length→cntA ctN (xs.take (k+1))=cntA ctN (xs.take k)+ctN (xs.getD k ((0,0,0,[]):NodeD)):=fun h=>cntA_next _ h
  have hle:cntA ctN (xs.take (k+1))≤cntA ctN xs:=cntA_take _
  have hcn:ctN (xs.getD k ((0,0,0,[]):NodeD))=3+(xs.getD k ((0,0,0,[]):NodeD)).2.2.2.length:=rfl
  obtain ⟨C,hC⟩ :∃C:Nat,C=cntA ctN (xs.take k):=⟨_,rfl⟩
  have hw1:k < xs.length→IntKind.i64.wrap (kk+(cntA ctN (xs.take k):Nat)+1)=kk+(cntA ctN (xs.take k):Nat)+1:=fun h=>wrapI (by have:=hnx h; omega)
  have hw2:k < xs.length→IntKind.i64.wrap (kk+(cntA ctN (xs.take k):Nat)+1+1)=kk+(cntA ctN (xs.take k):Nat)+2:=fun h=>by rw [wrapI (by have:=hnx h; omega)]; omega
  have hw3:k < xs.length→IntKind.i64.wrap (kk+(cntA ctN (xs.take k):Nat)+2+1)=kk+(cntA ctN (xs.take k):Nat)+3:=fun h=>by rw [wrapI (by have:=hnx h; omega)]; omega
  refine oS fun K5 hK5=>?_
  refine oS fun K6 hK6=>?_
  refine oW T_heldL_ok ?_
  simp only [go_sem]
  refine hK6 _ ?_
  refine oC rfl ?_ ?_
  ·
   intro c0
   refine AWP_skip ?_
   simp only [go_sem]
   refine hK5 _ ?_
   refine oS fun K7 hK7=>?_
   refine AWP_block ?_
   refine oS fun K8 hK8=>?_
   have hma':=hma (by omega)
   have hms':=hms (by omega)
   have hw1:=hw1 (by omega)
   have hw2:=hw2 (by omega)
   have hw3:=hw3 (by omega)
   have hq:=hnx (by omega)
   have gs :∀x,((markT mkN ctN kk xs k).set k x).getD k ((0,0,0,[]):NodeD)=x:=fun x=>getD_setk (by omega)
   refine oW T_heldL_ok ?_
   simp (maxSteps:=2000000) only [List.nodup_nil,gs,List.set_set,hma',hml,List.length_set,hw1,hw2,hw3,go_sem]
   repeat (with_reducible first | refine oA ?_ | refine And.intro (by first | first | exact ⟨by omega,by omega⟩ | (refine ⟨?_,?_⟩<;>omega)) ?_)
   refine hK8 _ ?_
   refine oS fun K9 hK9=>?_
   refine oW T_heldL_ok ?_
   simp only [List.nodup_nil,gs,List.set_set,hma',hml,List.length_set,hw1,hw2,hw3,go_sem]
   repeat (with_reducible first | refine oA ?_ | refine And.intro (by first | first | exact ⟨by omega,by omega⟩ | (refine ⟨?_,?_⟩<;>omega)) ?_)
   refine hK9 _ ?_
   refine oS fun K10 hK10=>?_
   refine oW T_heldL_ok ?_
   simp (maxSteps:=2000000) only [List.nodup_nil,gs,List.set_set,hma',hml,List.length_set,hw1,hw2,hw3,go_sem]
   repeat (with_reducible first | refine oA ?_ | refine And.intro (by first | first | exact ⟨by omega,by omega⟩ | (refine ⟨?_,?_⟩<;>omega)) ?_)
   refine hK10 _ ?_
   refine oS fun K11 hK11=>?_
   refine oW T_heldL_ok ?_
   simp only [List.nodup_nil,gs,List.set_set,hma',hml,List.length_set,hw1,hw2,hw3,go_sem]
   repeat (with_reducible first | refine oA ?_ | refine And.intro (by first | first | exact ⟨by omega,by omega⟩ | (refine ⟨?_,?_⟩<;>omega)) ?_)
   refine hK11 _ ?_
   refine oS fun K12 hK12=>?_
   refine oW T_heldL_ok ?_
   simp (maxSteps:=2000000) only [List.nodup_nil,gs,List.set_set,hma',hml,List.length_set,hw1,hw2,hw3,go_sem]
   repeat (with_reducible first | refine oA ?_ | refine And.intro (by first | first | exact ⟨by omega,by omega⟩ | (refine ⟨?_,?_⟩<;>omega)) ?_)
   refine hK12 _ ?_
   refine oS fun K13 hK13=>?_
   refine oW T_heldL_ok ?_
   simp only [List.nodup_nil,gs,List.set_set,hma',hml,List.length_set,hw1,hw2,hw3,go_sem]
   repeat (with_reducible first | refine oA ?_ | refine And.intro (by first | first | exact ⟨by omega,by omega⟩ | (refine ⟨?_,?_⟩<;>omega)) ?_)
   refine hK13 _ ?_
   refine oW T_heldL_ok ?_
   simp (maxSteps:=2000000) only [List.nodup_nil,gs,List.set_set,hma',hml,List.length_set,hw1,hw2,hw3,go_sem]
   repeat (with_reducible first | refine oA ?_ | refine And.intro (by first | first | exact ⟨by omega,by omega⟩ | (refine ⟨?_,?_⟩<;>omega)) ?_)
   refine hK7 _ ?_
   refine oW T_heldL_ok ?_
   simp only [go_sem]
   refine hL4 ⟨k+1,by omega⟩ _ (oK ?_) ?_
   ·
    simp (maxSteps:=2000000) only [go_sem]
    all_goals (first | rfl | ((repeat' refine And.intro ?_ ?_)<;>first | rfl | exact wk (by omega) | (congr 1; done) | omega))
   ·
    first | (simp only []; omega) | omega | (simp; omega)
  intro c0
  refine AWP_exit ?_
  simp only [go_sem]
  refine hK2 _ ?_
  refine oS fun K14 hK14=>?_
  refine oW T_heldL_ok ?_
  simp only [go_sem]
  refine hK14 _ ?_
  refine AWP_ret ?_
  simp only [hres,go_sem]
  first
   | exact oG
   | refine ⟨oG,?_⟩
     have hk3:cntA ctN (xs.take k)=cntA ctN xs:=by rw [List.take_of_length_le (l:=xs) (i:=k) (by omega)]
     (repeat' refine And.intro ?_ ?_)<;>first | rfl | exact markT_all (by omega) | (congr 1; exact markT_all (by omega)) | (rw [hk3]) | omega
def T_markNs:Tab:=fun f=>if f=80 then some (.g K_markNs) else T_heldL f
theorem T_markNs_ok:TabOk Tryz.prog T_markNs:=tabG markNs_ok (fnOk_of Tryz.func80 rfl (by decide)) T_heldL_ok
attribute [go_sem] T_markNs K_markNs
def K_markP:GCon where
  ps:=[.ag [.rd (.int .i64),.ow 0,.ow 1,.ow 2],.val (.int .i64)]
  os:=[.tree 26 (.row 2 (.int .i64)),.tree 90 (.prod (.int .i64) (.prod (.int .i64) (.prod (.int .i64) (.row 2 (.int .i64))))),.row 2 (.int .i64)]
  c:=fun x=>mkOk x.1.2.1 (ctP (0,x.2.1,x.2.2.1,x.2.2.2.1))
  r:=fun x=>.c (.sc (.int .i64 (x.1.2.1+(ctP (0,x.2.1,x.2.2.1,x.2.2.2.1):Nat))))
  o:=fun x=>[(30,.tree 26 (.row 2 (.int .i64)) (markLL x.1.2.1 x.2.1) none),(31,.tree 90 (.prod (.int .i64) (.prod (.int .i64) (.prod (.int .i64) (.row 2 (.int .i64))))) (markNs (x.1.2.1+(cntA List.length x.2.1:Nat)) x.2.2.1) none),(32,.row 2 (.int .i64) (markL (x.1.2.1+(cntA List.length x.2.1:Nat)+(cntA ctN x.2.2.1:Nat)) x.2.2.2.1) [])]
  ok:=by
    rintro ⟨⟨⟨(pi:Int),_⟩,(kk:Int),_⟩,⟨(ts:List (List Int)),(ns:List NodeD),(os:List Int),_⟩⟩
    exact ⟨rfl,rfl,by decide⟩
theorem markP_ok:GenT Tryz.prog 28 K_markP:=by
  refine gen_of_body Tryz.func28 rfl ?_
  have hres:Tryz.f28.results.toList=[.tmp 4]:=rfl
  rintro ⟨⟨⟨(pi:Int),_⟩,(kk:Int),_⟩,⟨(ts:List (List Int)),(ns:List NodeD),(os:List Int),_⟩⟩ hc hL hO
  simp only [K_markP,go_sem] at hL
  simp only [K_markP,go_sem] at hO
  simp only [K_markP,St.init,St.initG,Tryz.ntmps28,go_sem] 
  obtain ⟨h1,h2⟩:=(show mkOk kk (ctP (0,ts,ns,os)) from hc)
  have hcp:ctP (0,ts,ns,os)=cntA List.length ts+cntA ctN ns+os.length:=rfl
  refine oS fun K1 hK1=>?_
  refine oW T_markNs_ok ?_
  simp only [go_sem]
  repeat (with_reducible first | refine oA ?_ | refine And.intro (by first | first | exact ⟨by omega,by omega⟩) ?_)
  refine hK1 _ ?_
  refine oS fun K2 hK2=>?_
  refine oW T_markNs_ok ?_
  simp (maxSteps:=2000000) only [go_sem]
  repeat (with_reducible first | refine oA ?_ | refine And.intro (by first | first | exact ⟨by omega,by omega⟩) ?_)
  refine hK2 _ ?_
  refine oS fun K3 hK3=>?_
  refine oW T_markNs_ok ?_
  simp (maxSteps:=2000000) only [go_sem]
  repeat (with_reducible first | refine oA ?_ | refine And.intro (by first | first | exact ⟨by omega,by omega⟩) ?_)
  refine hK3 _ ?_
  refine oS fun K4 hK4=>?_
  refine oW T_markNs_ok ?_
  simp (maxSteps:=2000000) only [go_sem]
  repeat (with_reducible first | refine oA ?_ | refine And.intro (by first | first | exact ⟨by omega,by omega⟩) ?_)
  refine hK4 _ ?_
  refine oS fun K5 hK5=>?_
  refine oW T_markNs_ok ?_
  simp only [go_sem]
  repeat (with_reducible first | refine oA ?_ | refine And.intro (by first | first | exact ⟨by omega,by omega⟩) ?_)
  refine hK5 _ ?_
  refine AWP_ret ?_
  simp only [hres,go_sem]
  first | exact oG | (refine ⟨oG,?_⟩; (repeat' refine And.intro ?_ ?_)<;>first | rfl | (rw [hcp]; omega) | omega)
def T_markP:Tab:=fun f=>if f=28 then some (.g K_markP) else T_markNs f
theorem T_markP_ok:TabOk Tryz.prog T_markP:=tabG markP_ok (fnOk_of Tryz.func28 rfl (by decide)) T_markNs_ok
attribute [go_sem] T_markP K_markP
end Go.Proofs.YtflaacndokbddaaGreat
