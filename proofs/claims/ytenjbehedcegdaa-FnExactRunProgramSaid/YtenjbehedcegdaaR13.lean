/-
  Texts of this claim, joined (part 13). No condition beyond those of the theorems.
-/
import Derived.Test.YtenjbehedcegdaaR05
namespace Go.Proofs.Ytenjbehedcegdaa
open Go.RowKit
set_option linter.unusedSimpArgs false
set_option linter.unusedVariables false
set_option maxRecDepth 100000
set_option maxHeartbeats 4000000
def K_markI:GCon where
  ps:=[.ow 0,.val (.int .i64)]
  os:=[.row 2 (.int .i64)]
  c:=fun x=>mkOk x.1.2.1 (List.length x.2.1)
  r:=fun x=>.c (.sc (.int .i64 (x.1.2.1+((List.length x.2.1:Nat):Int))))
  o:=fun x=>[(30,.row 2 (.int .i64) (markA mkI ctI x.1.2.1 x.2.1) [])]
  ok:=by
    rintro⟨⟨_,(kk:Int),_⟩,⟨(xs:List Int),_⟩⟩
    exact⟨rfl,rfl,by decide⟩
theorem markI_ok:GenT Try.prog 38 K_markI:=by
  refine gen_of_body Try.func38 rfl ?_
  have hres:Try.f38.results.toList=[.tmp 4]:=rfl
  rintro⟨⟨_,(kk:Int),_⟩,⟨(xs:List Int),_⟩⟩ hc hL hO
  simp only[K_markI,go_sem] at hL
  simp only[K_markI,go_sem] at hO
  simp only[K_markI,St.init,St.initG,Try.ntmps38,go_sem] 
  obtain⟨h1,h2⟩:=(show mkOk kk (List.length xs) from hc)
  have hci:cntA ctI xs=xs.length:=cntI xs
  refine oS fun _ hK1=>?_
  refine oW T0_ok ?_
  simp only[go_sem]
  refine hK1 _ ?_
  refine oS fun _ hK2=>?_
  refine oS fun _ hK3=>?_
  refine oW T0_ok ?_
  simp only[go_sem]
  refine hK3 _ ?_
  refine AWP_block ?_
  refine AWP_loop_k (ι:={ k:Nat // k≤xs.length }) (fun k=>⟨[.c (.ow 30),.c (.sc (.int .i64 (kk+(cntA ctI (xs.take k.1):Nat)))),zz,zz,zz,.c (.sc (.int .i64 (k.1))),zz,zz,zz,zz,zz,zz,zz,zz,zz,zz,zz,zz,zz],[(30,.row 2 (.int .i64) (markT mkI ctI kk xs k.1) [])]⟩) (fun k=>xs.length - k.1) ⟨0,by simp⟩ ?_ ?_
  ·
   refine oK ?_
   simp (maxSteps:=2000000)only[go_sem]
   all_goals(first|rfl|((repeat' refine And.intro ?_ ?_)<;>first|rfl|exact markT_zero.symm|(simp[cntA];done)|(rw[markT_zero])))
  rintro⟨k,hk⟩ K4 hL4
  have hml:(markT mkI ctI kk xs k).length=xs.length:=markT_len hk
  have hma:k < xs.length→(markT mkI ctI kk xs k).getD k (0:Int)=xs.getD k (0:Int):=fun h=>markT_at _ h
  have hms:k < xs.length→(markT mkI ctI kk xs k).set k (mkI (kk+(cntA ctI (xs.take k):Nat)) (xs.getD k (0:Int)))=markT mkI ctI kk xs (k+1):=fun h=>markT_set _ h
  have hnx:k < xs.length→cntA ctI (xs.take (k+1))=cntA ctI (xs.take k)+ctI (xs.getD k (0:Int)):=fun h=>cntA_next _ h
  have hle:cntA ctI (xs.take (k+1))≤cntA ctI xs:=cntA_take _
  have hww:k < xs.length→IntKind.i64.wrap (kk+(cntA ctI (xs.take k):Nat)+1)=kk+(cntA ctI (xs.take (k+1)):Nat):=fun h=>by rw[wrapI (by have:=hnx h;simp only[ctI] at this;omega),hnx h];simp only[ctI];omega
  refine oS fun _ hK5=>?_
  refine oS fun _ hK6=>?_
  refine oW T0_ok ?_
  simp only[go_sem]
  refine hK6 _ ?_
  refine oC rfl ?_ ?_
  ·
   intro c0
   refine AWP_skip ?_
   simp only[go_sem]
   refine hK5 _ ?_
   refine oS fun _ hK7=>?_
   refine AWP_block ?_
   refine oS fun _ hK8=>?_
   refine oW T0_ok ?_
   simp (maxSteps:=2000000)only[go_sem]
   repeat(with_reducible refine oA ?_)
   refine hK8 _ ?_
   refine oW T0_ok ?_
   simp only[go_sem]
   refine hK7 _ ?_
   refine oW T0_ok ?_
   simp only[go_sem]
   refine hL4 ⟨k+1,by omega⟩ _ (oK ?_) ?_
   ·
    simp (maxSteps:=2000000)only[go_sem]
    all_goals(first|rfl|((repeat' refine And.intro ?_ ?_)<;>first|rfl|exact wk (by omega)|exact hww (by omega)|exact hms (by omega)))
   ·
    first|(simp only[];omega)|omega|(simp;omega)
  intro c0
  refine AWP_exit ?_
  simp only[go_sem]
  refine hK2 _ ?_
  refine oS fun _ hK9=>?_
  refine oW T0_ok ?_
  simp only[go_sem]
  refine hK9 _ ?_
  refine AWP_ret ?_
  simp only[hres,go_sem]
  first
   | exact oG
   | refine ⟨oG, ?_⟩
     have hk3:cntA ctI (xs.take k)=cntA ctI xs:=by rw[List.take_of_length_le (l:=xs) (i:=k) (by omega)]
     (repeat' refine And.intro ?_ ?_)<;>first|rfl|exact markT_all (by omega)|(congr 1;exact markT_all (by omega))|(rw[hk3];rw[cntI])|omega
def T_markI:Tab:=fun f=>if f=38 then some (.g K_markI) else T0 f
theorem T_markI_ok:TabOk Try.prog T_markI:=tabG markI_ok (fnOk_of Try.func38 rfl (by decide)) T0_ok
attribute [go_sem] T_markI K_markI
def K_markL:GCon where
  ps:=[.ow 0,.val (.int .i64)]
  os:=[.tree 24 (.row 2 (.int .i64))]
  c:=fun x=>mkOk x.1.2.1 (cntA List.length x.2.1)
  r:=fun x=>.c (.sc (.int .i64 (x.1.2.1+((cntA List.length x.2.1:Nat):Int))))
  o:=fun x=>[(30,.tree 24 (.row 2 (.int .i64)) (markA markL List.length x.1.2.1 x.2.1) none)]
  ok:=by
    rintro⟨⟨_,(kk:Int),_⟩,⟨(xs:List (List Int)),_⟩⟩
    exact⟨rfl,rfl,by decide⟩
theorem markL_ok:GenT Try.prog 13 K_markL:=by
  refine gen_of_body Try.func13 rfl ?_
  have hres:Try.f13.results.toList=[.tmp 4]:=rfl
  rintro⟨⟨_,(kk:Int),_⟩,⟨(xs:List (List Int)),_⟩⟩ hc hL hO
  simp only[K_markL,go_sem] at hL
  simp only[K_markL,go_sem] at hO
  simp only[K_markL,St.init,St.initG,Try.ntmps13,go_sem] 
  obtain⟨h1,h2⟩:=(show mkOk kk (cntA List.length xs) from hc)
  refine oS fun _ hK1=>?_
  refine oW T_markI_ok ?_
  simp only[go_sem]
  refine hK1 _ ?_
  refine oS fun _ hK2=>?_
  refine oS fun _ hK3=>?_
  refine oW T_markI_ok ?_
  simp only[go_sem]
  refine hK3 _ ?_
  refine AWP_block ?_
  refine AWP_loop_k (ι:={ k:Nat // k≤xs.length }) (fun k=>⟨[.c (.ow 30),.c (.sc (.int .i64 (kk+(cntA List.length (xs.take k.1):Nat)))),zz,zz,zz,.c (.sc (.int .i64 (k.1))),zz,zz,zz,zz,zz,zz,zz,zz,zz,zz,zz,zz,zz],[(30,.tree 24 (.row 2 (.int .i64)) (markT markL List.length kk xs k.1) none)]⟩) (fun k=>xs.length - k.1) ⟨0,by simp⟩ ?_ ?_
  ·
   refine oK ?_
   simp (maxSteps:=2000000)only[go_sem]
   all_goals(first|rfl|((repeat' refine And.intro ?_ ?_)<;>first|rfl|exact markT_zero.symm|(simp[cntA];done)|(rw[markT_zero])))
  rintro⟨k,hk⟩ K4 hL4
  have hml:(markT markL List.length kk xs k).length=xs.length:=markT_len hk
  have hma:k < xs.length→(markT markL List.length kk xs k).getD k ([]:List Int)=xs.getD k ([]:List Int):=fun h=>markT_at _ h
  have hms:k < xs.length→(markT markL List.length kk xs k).set k (markL (kk+(cntA List.length (xs.take k):Nat)) (xs.getD k ([]:List Int)))=markT markL List.length kk xs (k+1):=fun h=>markT_set _ h
  have hnx:k < xs.length→cntA List.length (xs.take (k+1))=cntA List.length (xs.take k)+List.length (xs.getD k ([]:List Int)):=fun h=>cntA_next _ h
  have hle:cntA List.length (xs.take (k+1))≤cntA List.length xs:=cntA_take _
  refine oS fun _ hK5=>?_
  refine oS fun _ hK6=>?_
  refine oW T_markI_ok ?_
  simp only[go_sem]
  refine hK6 _ ?_
  refine oC rfl ?_ ?_
  ·
   intro c0
   refine AWP_skip ?_
   simp only[go_sem]
   refine hK5 _ ?_
   refine oS fun _ hK7=>?_
   refine AWP_block ?_
   refine oW T_markI_ok ?_
   simp (maxSteps:=2000000)only[hml,go_sem]
   repeat(with_reducible first|refine oA ?_|refine And.intro (by first|first|exact⟨by omega,by omega⟩|(rw[hma (by omega)];exact⟨by omega,by omega⟩)) ?_)
   refine hK7 _ ?_
   refine oW T_markI_ok ?_
   simp only[go_sem]
   refine hL4 ⟨k+1,by omega⟩ _ (oK ?_) ?_
   ·
    simp (maxSteps:=2000000)only[go_sem]
    have hq:=hnx (by omega)
    all_goals(first|rfl|((repeat' refine And.intro ?_ ?_)<;>first|rfl|exact wk (by omega)|(congr 1;exact hms (by omega))|(rw[hma (by omega)];exact hms (by omega))|(rw[hma (by omega)];congr 1;exact hms (by omega))|(rw[hma (by omega)];omega)|omega))
   ·
    first|(simp only[];omega)|omega|(simp;omega)
  intro c0
  refine AWP_exit ?_
  simp only[go_sem]
  refine hK2 _ ?_
  refine oS fun _ hK8=>?_
  refine oW T_markI_ok ?_
  simp only[go_sem]
  refine hK8 _ ?_
  refine AWP_ret ?_
  simp only[hres,go_sem]
  first
   | exact oG
   | refine ⟨oG, ?_⟩
     have hk3:cntA List.length (xs.take k)=cntA List.length xs:=by rw[List.take_of_length_le (l:=xs) (i:=k) (by omega)]
     (repeat' refine And.intro ?_ ?_)<;>first|rfl|exact markT_all (by omega)|(congr 1;exact markT_all (by omega))|(rw[hk3])|omega
def T_markL:Tab:=fun f=>if f=13 then some (.g K_markL) else T_markI f
theorem T_markL_ok:TabOk Try.prog T_markL:=tabG markL_ok (fnOk_of Try.func13 rfl (by decide)) T_markI_ok
attribute [go_sem] T_markL K_markL
def K_heldI:Con:=⟨[.val ((.row 2 (.int .i64))),.val (.int .i64)],[⟨.int .i64,true⟩],fun x=>mkOk x.2.1 (cntA ctI x.1),fun x=>heldA mkI ctI x.2.1 x.1⟩
theorem heldI_ok:PureT Try.prog 39 K_heldI:=by
  refine pure_of_body Try.func39 rfl ?_
  have hres:Try.f39.results.toList=[.tmp 4]:=rfl
  rintro⟨(xs:List Int),(kk:Int),_⟩ hc hL
  simp only[K_heldI,go_sem] at hL
  obtain lxs:=hL
  simp only[K_heldI,St.init,St.initG,Try.ntmps39,go_sem] 
  obtain⟨h1,h2⟩:=(show mkOk kk (cntA ctI xs) from hc)
  refine oS fun _ hK1=>?_
  refine oW T_markL_ok ?_
  simp only[go_sem]
  refine hK1 _ ?_
  refine oS fun _ hK2=>?_
  refine oS fun _ hK3=>?_
  refine oW T_markL_ok ?_
  simp only[go_sem]
  refine hK3 _ ?_
  refine AWP_block ?_
  refine AWP_loop_k (ι:={ k:Nat // k≤xs.length∧xs.take k=markA mkI ctI kk (xs.take k) }) (fun k=>⟨[.c (.rd [] 2 (.int .i64) (xs)),.c (.sc (.int .i64 (kk+(cntA ctI (xs.take k.1):Nat)))),zz,zz,zz,.c (.sc (.int .i64 (k.1))),zz,zz,zz,zz,zz,zz,zz,zz,zz,zz,zz,zz,zz,zz,zz],[]⟩) (fun k=>xs.length - k.1) ⟨0,by simp,by simp[markA]⟩ ?_ ?_
  ·
   refine oK ?_
   simp (maxSteps:=2000000)only[go_sem]
   all_goals(first|rfl|((repeat' refine And.intro ?_ ?_)<;>first|rfl|(simp[cntA];done)))
  rintro⟨k,hk,hp⟩ K4 hL4
  have hnx:k < xs.length→cntA ctI (xs.take (k+1))=cntA ctI (xs.take k)+ctI (xs.getD k (0:Int)):=fun h=>cntA_next _ h
  have hle:cntA ctI (xs.take (k+1))≤cntA ctI xs:=cntA_take _
  have hww:k < xs.length→IntKind.i64.wrap (kk+(cntA ctI (xs.take k):Nat)+1)=kk+(cntA ctI (xs.take (k+1)):Nat):=fun h=>by rw[wrapI (by have:=hnx h;simp only[ctI] at this;omega),hnx h];simp only[ctI];omega
  refine oS fun _ hK5=>?_
  refine oS fun _ hK6=>?_
  refine oW T_markL_ok ?_
  simp only[go_sem]
  refine hK6 _ ?_
  refine oC rfl ?_ ?_
  ·
   intro c0
   refine AWP_skip ?_
   simp only[go_sem]
   refine hK5 _ ?_
   refine oS fun _ hK7=>?_
   refine AWP_block ?_
   refine oS fun _ hK8=>?_
   refine oS fun _ hK9=>?_
   refine oW T_markL_ok ?_
   simp (maxSteps:=2000000)only[go_sem]
   repeat(with_reducible refine oA ?_)
   refine hK9 _ ?_
   refine oC rfl ?_ ?_
   ·
    intro c1
    refine oS fun _ hK10=>?_
    refine oW T_markL_ok ?_
    simp only[go_sem]
    refine hK10 _ ?_
    refine AWP_ret ?_
    simp only[hres,go_sem]
    first|exact oF|(refine⟨?_,oF⟩;exact(held_stop (0:Int) (m:=k) (by omega) (by first|assumption|omega)).symm)
   intro c1
   have hq:xs.getD k 0=mkI (kk+(cntA ctI (xs.take k):Nat)) (xs.getD k 0):=by first|assumption|omega
   refine AWP_skip ?_
   simp only[go_sem]
   refine hK8 _ ?_
   refine oW T_markL_ok ?_
   simp only[go_sem]
   refine hK7 _ ?_
   refine oW T_markL_ok ?_
   simp only[go_sem]
   refine hL4 ⟨k+1,by omega,held_next (0:Int) (by omega) hp hq⟩ _ (oK ?_) ?_
   ·
    simp (maxSteps:=2000000)only[go_sem]
    all_goals(first|rfl|((repeat' refine And.intro ?_ ?_)<;>first|rfl|exact wk (by omega)|exact hww (by omega)))
   ·
    first|(simp only[];omega)|omega|(simp;omega)
  intro c0
  refine AWP_exit ?_
  simp only[go_sem]
  refine hK2 _ ?_
  refine oS fun _ hK11=>?_
  refine oW T_markL_ok ?_
  simp only[go_sem]
  refine hK11 _ ?_
  refine AWP_ret ?_
  simp only[hres,go_sem]
  first|exact oF|(refine⟨?_,oF⟩;rw[held_done (m:=k) (by omega) hp,List.take_of_length_le (by omega)])
def T_heldI:Tab:=fun f=>if f=39 then some (.p K_heldI) else T_markL f
theorem T_heldI_ok:TabOk Try.prog T_heldI:=tabP heldI_ok (fnOk_of Try.func39 rfl (by decide)) T_markL_ok
attribute [go_sem] T_heldI K_heldI
def K_heldL:Con:=⟨[.val ((.row 24 (.row 2 (.int .i64)))),.val (.int .i64)],[⟨.int .i64,true⟩],fun x=>mkOk x.2.1 (cntA List.length x.1),fun x=>heldA markL List.length x.2.1 x.1⟩
theorem heldL_ok:PureT Try.prog 14 K_heldL:=by
  refine pure_of_body Try.func14 rfl ?_
  have hres:Try.f14.results.toList=[.tmp 4]:=rfl
  rintro⟨(xs:List (List Int)),(kk:Int),_⟩ hc hL
  simp only[K_heldL,go_sem] at hL
  obtain⟨lxs,lxs2⟩:=hL
  simp only[K_heldL,St.init,St.initG,Try.ntmps14,go_sem] 
  obtain⟨h1,h2⟩:=(show mkOk kk (cntA List.length xs) from hc)
  refine oS fun _ hK1=>?_
  refine oW T_heldI_ok ?_
  simp only[go_sem]
  refine hK1 _ ?_
  refine oS fun _ hK2=>?_
  refine oS fun _ hK3=>?_
  refine oW T_heldI_ok ?_
  simp only[go_sem]
  refine hK3 _ ?_
  refine AWP_block ?_
  refine AWP_loop_k (ι:={ k:Nat // k≤xs.length∧xs.take k=markA markL List.length kk (xs.take k) }) (fun k=>⟨[.c (.rd [] 24 (.row 2 (.int .i64)) (xs)),.c (.sc (.int .i64 (kk+(cntA List.length (xs.take k.1):Nat)))),zz,zz,zz,.c (.sc (.int .i64 (k.1))),zz,zz,zz,zz,zz,zz,zz,zz,zz,zz,zz,zz,zz,zz,zz],[]⟩) (fun k=>xs.length - k.1) ⟨0,by simp,by simp[markA]⟩ ?_ ?_
  ·
   refine oK ?_
   simp (maxSteps:=2000000)only[go_sem]
   all_goals(first|rfl|((repeat' refine And.intro ?_ ?_)<;>first|rfl|(simp[cntA];done)))
  rintro⟨k,hk,hp⟩ K4 hL4
  have hnx:k < xs.length→cntA List.length (xs.take (k+1))=cntA List.length (xs.take k)+List.length (xs.getD k ([]:List Int)):=fun h=>cntA_next _ h
  have hle:cntA List.length (xs.take (k+1))≤cntA List.length xs:=cntA_take _
  have hci:cntA ctI (xs.getD k [])=(xs.getD k []).length:=cntI _
  refine oS fun _ hK5=>?_
  refine oS fun _ hK6=>?_
  refine oW T_heldI_ok ?_
  simp only[go_sem]
  refine hK6 _ ?_
  refine oC rfl ?_ ?_
  ·
   intro c0
   refine AWP_skip ?_
   simp only[go_sem]
   refine hK5 _ ?_
   refine oS fun _ hK7=>?_
   refine AWP_block ?_
   refine oS fun _ hK8=>?_
   refine oW T_heldI_ok ?_
   simp (maxSteps:=2000000)only[go_sem]
   repeat(with_reducible first|refine oA ?_|refine And.intro (by first|(rw[cntI];exact⟨by omega,by omega⟩)) ?_)
   refine hK8 _ ?_
   refine oS fun _ hK9=>?_
   refine oW T_heldI_ok ?_
   simp only[go_sem]
   refine hK9 _ ?_
   refine oC rfl ?_ ?_
   ·
    intro c1
    obtain⟨e1,e2⟩:=heldA_neg (by omega) c1
    have hq:=e2
    refine oS fun _ hK10=>?_
    refine oW T_heldI_ok ?_
    simp only[go_sem]
    refine hK10 _ ?_
    refine AWP_ret ?_
    simp only[hres,go_sem]
    first|exact oF|(refine⟨?_,oF⟩;exact(held_stop ([]:List Int) (m:=k) (by omega) hq).symm)
   intro c1
   obtain⟨e1,hq⟩:=heldA_pos c1
   refine AWP_skip ?_
   simp only[go_sem]
   refine hK7 _ ?_
   refine oW T_heldI_ok ?_
   simp only[go_sem]
   refine hL4 ⟨k+1,by omega,held_next ([]:List Int) (by omega) hp hq⟩ _ (oK ?_) ?_
   ·
    simp (maxSteps:=2000000)only[go_sem]
    all_goals(first|rfl|((repeat' refine And.intro ?_ ?_)<;>first|rfl|exact wk (by omega)|(rw[e1,hnx (by omega)];omega)))
   ·
    first|(simp only[];omega)|omega|(simp;omega)
  intro c0
  refine AWP_exit ?_
  simp only[go_sem]
  refine hK2 _ ?_
  refine oS fun _ hK11=>?_
  refine oW T_heldI_ok ?_
  simp only[go_sem]
  refine hK11 _ ?_
  refine AWP_ret ?_
  simp only[hres,go_sem]
  first|exact oF|(refine⟨?_,oF⟩;rw[held_done (m:=k) (by omega) hp,List.take_of_length_le (by omega)])
def T_heldL:Tab:=fun f=>if f=14 then some (.p K_heldL) else T_heldI f
theorem T_heldL_ok:TabOk Try.prog T_heldL:=tabP heldL_ok (fnOk_of Try.func14 rfl (by decide)) T_heldI_ok
attribute [go_sem] T_heldL K_heldL
end Go.Proofs.Ytenjbehedcegdaa
