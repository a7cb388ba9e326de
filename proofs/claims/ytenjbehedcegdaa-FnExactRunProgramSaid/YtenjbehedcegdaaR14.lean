/-
  Texts of this claim, joined (part 14). No condition beyond those of the theorems.
-/
import Derived.Test.YtenjbehedcegdaaR13
import Derived.Test.YtenjbehedcegdaaR08
namespace Go.Proofs.Ytenjbehedcegdaa
open Go.RowKit
set_option linter.unusedSimpArgs false
set_option linter.unusedVariables false
set_option maxRecDepth 100000
set_option maxHeartbeats 4000000
def K_markXs:GCon where
  ps:=[.ow 0,.val (.int .i64)]
  os:=[.tree 49 (.prod (.int .i64) (.prod (.int .i64) (.prod (.int .i64) (.prod (.int .i64) (.prod (.row 2 (.int .i64)) (.int .i64))))))]
  c:=fun x=>mkOk x.1.2.1 (cntA ctX x.2.1)
  r:=fun x=>.c (.sc (.int .i64 (x.1.2.1+((cntA ctX x.2.1:Nat):Int))))
  o:=fun x=>[(30,.tree 49 (.prod (.int .i64) (.prod (.int .i64) (.prod (.int .i64) (.prod (.int .i64) (.prod (.row 2 (.int .i64)) (.int .i64)))))) (markA mkX ctX x.1.2.1 x.2.1) none)]
  ok:=by
    rintro⟨⟨_,(kk:Int),_⟩,⟨(xs:List InstrD),_⟩⟩
    exact⟨rfl,rfl,by decide⟩
theorem markXs_ok:GenT Try.prog 37 K_markXs:=by
  refine gen_of_body Try.func37 rfl ?_
  have hres:Try.f37.results.toList=[.tmp 4]:=rfl
  rintro⟨⟨_,(kk:Int),_⟩,⟨(xs:List InstrD),_⟩⟩ hc hL hO
  simp only[K_markXs,go_sem] at hL
  simp only[K_markXs,go_sem] at hO
  simp only[K_markXs,St.init,St.initG,Try.ntmps37,go_sem] 
  obtain⟨h1,h2⟩:=(show mkOk kk (cntA ctX xs) from hc)
  refine oS fun _ hK1=>?_
  refine oW T_heldL_ok ?_
  simp only[go_sem]
  refine hK1 _ ?_
  refine oS fun _ hK2=>?_
  refine oS fun _ hK3=>?_
  refine oW T_heldL_ok ?_
  simp only[go_sem]
  refine hK3 _ ?_
  refine AWP_block ?_
  refine AWP_loop_k (ι:={ k:Nat // k≤xs.length }) (fun k=>⟨[.c (.ow 30),.c (.sc (.int .i64 (kk+(cntA ctX (xs.take k.1):Nat)))),zz,zz,zz,.c (.sc (.int .i64 (k.1))),zz,zz,zz,zz,zz,zz,zz,zz,zz,zz,zz,zz,zz,zz,zz,zz,zz,zz,zz,zz,zz,zz,zz,zz,zz,zz,zz,zz,zz,zz,zz,zz,zz,zz,zz,zz,zz,zz,zz,zz,zz,zz,zz,zz,zz,zz,zz,zz,zz],[(30,.tree 49 (.prod (.int .i64) (.prod (.int .i64) (.prod (.int .i64) (.prod (.int .i64) (.prod (.row 2 (.int .i64)) (.int .i64)))))) (markT mkX ctX kk xs k.1) none)]⟩) (fun k=>xs.length - k.1) ⟨0,by simp⟩ ?_ ?_
  ·
   refine oK ?_
   simp (maxSteps:=2000000)only[go_sem]
   all_goals(first|rfl|((repeat' refine And.intro ?_ ?_)<;>first|rfl|exact markT_zero.symm|(simp[cntA];done)|(rw[markT_zero])))
  rintro⟨k,hk⟩ K4 hL4
  have hml:(markT mkX ctX kk xs k).length=xs.length:=markT_len hk
  have hma:k < xs.length→(markT mkX ctX kk xs k).getD k ((0,0,0,0,[],0):InstrD)=xs.getD k ((0,0,0,0,[],0):InstrD):=fun h=>markT_at _ h
  have hms:k < xs.length→(markT mkX ctX kk xs k).set k (mkX (kk+(cntA ctX (xs.take k):Nat)) (xs.getD k ((0,0,0,0,[],0):InstrD)))=markT mkX ctX kk xs (k+1):=fun h=>markT_set _ h
  have hnx:k < xs.length→cntA ctX (xs.take (k+1))=cntA ctX (xs.take k)+ctX (xs.getD k ((0,0,0,0,[],0):InstrD)):=fun h=>cntA_next _ h
  have hle:cntA ctX (xs.take (k+1))≤cntA ctX xs:=cntA_take _
  have hcn:ctX (xs.getD k ((0,0,0,0,[],0):InstrD))=5+(xs.getD k ((0,0,0,0,[],0):InstrD)).2.2.2.2.1.length:=rfl
  obtain⟨C,hC⟩:∃C:Nat,C=cntA ctX (xs.take k):=⟨_,rfl⟩
  have hw1:k < xs.length→IntKind.i64.wrap (kk+(cntA ctX (xs.take k):Nat)+1)=kk+(cntA ctX (xs.take k):Nat)+1:=fun h=>wrapI (by have:=hnx h;omega)
  have hw2:k < xs.length→IntKind.i64.wrap (kk+(cntA ctX (xs.take k):Nat)+1+1)=kk+(cntA ctX (xs.take k):Nat)+2:=fun h=>by rw[wrapI (by have:=hnx h;omega)];omega
  have hw3:k < xs.length→IntKind.i64.wrap (kk+(cntA ctX (xs.take k):Nat)+2+1)=kk+(cntA ctX (xs.take k):Nat)+3:=fun h=>by rw[wrapI (by have:=hnx h;omega)];omega
  have hw4:k < xs.length→IntKind.i64.wrap (kk+(cntA ctX (xs.take k):Nat)+3+1)=kk+(cntA ctX (xs.take k):Nat)+4:=fun h=>by rw[wrapI (by have:=hnx h;omega)];omega
  have hw6:k < xs.length→IntKind.i64.wrap (kk+(cntA ctX (xs.take k):Nat)+4+((xs.getD k ((0,0,0,0,[],0):InstrD)).2.2.2.2.1.length:Int)+1)=kk+(cntA ctX (xs.take (k+1)):Nat):=fun h=>by rw[wrapI (by have:=hnx h;omega)];have:=hnx h;omega
  refine oS fun _ hK5=>?_
  refine oS fun _ hK6=>?_
  refine oW T_heldL_ok ?_
  simp only[go_sem]
  refine hK6 _ ?_
  refine oC rfl ?_ ?_
  ·
   intro c0
   refine AWP_skip ?_
   simp only[go_sem]
   refine hK5 _ ?_
   refine oS fun _ hK7=>?_
   refine AWP_block ?_
   refine oS fun _ hK8=>?_
   have hma':=hma (by omega)
   have hms':=hms (by omega)
   have hw1:=hw1 (by omega)
   have hw2:=hw2 (by omega)
   have hw3:=hw3 (by omega)
   have hw4:=hw4 (by omega)
   have hw6:=hw6 (by omega)
   have hq:=hnx (by omega)
   have gs:∀x,((markT mkX ctX kk xs k).set k x).getD k ((0,0,0,0,[],0):InstrD)=x:=fun x=>getD_setk (by omega)
   refine oW T_heldL_ok ?_
   simp (maxSteps:=2000000)only[List.nodup_nil,gs,List.set_set,hma',hml,List.length_set,hw1,hw2,hw3,hw4,hw6,go_sem]
   repeat(with_reducible first|refine oA ?_|refine And.intro (by first|first|exact⟨by omega,by omega⟩|(refine⟨?_,?_⟩<;>omega)) ?_)
   refine hK8 _ ?_
   refine oS fun _ hK9=>?_
   refine oW T_heldL_ok ?_
   simp only[List.nodup_nil,gs,List.set_set,hma',hml,List.length_set,hw1,hw2,hw3,hw4,hw6,go_sem]
   repeat(with_reducible first|refine oA ?_|refine And.intro (by first|first|exact⟨by omega,by omega⟩|(refine⟨?_,?_⟩<;>omega)) ?_)
   refine hK9 _ ?_
   refine oS fun _ hK10=>?_
   refine oW T_heldL_ok ?_
   simp (maxSteps:=2000000)only[List.nodup_nil,gs,List.set_set,hma',hml,List.length_set,hw1,hw2,hw3,hw4,hw6,go_sem]
   repeat(with_reducible first|refine oA ?_|refine And.intro (by first|first|exact⟨by omega,by omega⟩|(refine⟨?_,?_⟩<;>omega)) ?_)
   refine hK10 _ ?_
   refine oS fun _ hK11=>?_
   refine oW T_heldL_ok ?_
   simp only[List.nodup_nil,gs,List.set_set,hma',hml,List.length_set,hw1,hw2,hw3,hw4,hw6,go_sem]
   repeat(with_reducible first|refine oA ?_|refine And.intro (by first|first|exact⟨by omega,by omega⟩|(refine⟨?_,?_⟩<;>omega)) ?_)
   refine hK11 _ ?_
   refine oS fun _ hK12=>?_
   refine oW T_heldL_ok ?_
   simp (maxSteps:=2000000)only[List.nodup_nil,gs,List.set_set,hma',hml,List.length_set,hw1,hw2,hw3,hw4,hw6,go_sem]
   repeat(with_reducible first|refine oA ?_|refine And.intro (by first|first|exact⟨by omega,by omega⟩|(refine⟨?_,?_⟩<;>omega)) ?_)
   refine hK12 _ ?_
   refine oS fun _ hK13=>?_
   refine oW T_heldL_ok ?_
   simp only[List.nodup_nil,gs,List.set_set,hma',hml,List.length_set,hw1,hw2,hw3,hw4,hw6,go_sem]
   repeat(with_reducible first|refine oA ?_|refine And.intro (by first|first|exact⟨by omega,by omega⟩|(refine⟨?_,?_⟩<;>omega)) ?_)
   refine hK13 _ ?_
   refine oS fun _ hK14=>?_
   refine oW T_heldL_ok ?_
   simp (maxSteps:=2000000)only[List.nodup_nil,gs,List.set_set,hma',hml,List.length_set,hw1,hw2,hw3,hw4,hw6,go_sem]
   repeat(with_reducible first|refine oA ?_|refine And.intro (by first|first|exact⟨by omega,by omega⟩|(refine⟨?_,?_⟩<;>omega)) ?_)
   refine hK14 _ ?_
   refine oS fun _ hK15=>?_
   refine oW T_heldL_ok ?_
   simp only[List.nodup_nil,gs,List.set_set,hma',hml,List.length_set,hw1,hw2,hw3,hw4,hw6,go_sem]
   repeat(with_reducible first|refine oA ?_|refine And.intro (by first|first|exact⟨by omega,by omega⟩|(refine⟨?_,?_⟩<;>omega)) ?_)
   refine hK15 _ ?_
   refine oS fun _ hK16=>?_
   refine oW T_heldL_ok ?_
   simp (maxSteps:=2000000)only[List.nodup_nil,gs,List.set_set,hma',hml,List.length_set,hw1,hw2,hw3,hw4,hw6,go_sem]
   repeat(with_reducible first|refine oA ?_|refine And.intro (by first|first|exact⟨by omega,by omega⟩|(refine⟨?_,?_⟩<;>omega)) ?_)
   refine hK16 _ ?_
   refine oS fun _ hK17=>?_
   refine oW T_heldL_ok ?_
   simp (maxSteps:=2000000)only[List.nodup_nil,gs,List.set_set,hma',hml,List.length_set,hw1,hw2,hw3,hw4,hw6,go_sem]
   repeat(with_reducible first|refine oA ?_|refine And.intro (by first|first|exact⟨by omega,by omega⟩|(refine⟨?_,?_⟩<;>omega)) ?_)
   refine hK17 _ ?_
   refine oW T_heldL_ok ?_
   simp only[List.nodup_nil,gs,List.set_set,hma',hml,List.length_set,hw1,hw2,hw3,hw4,hw6,go_sem]
   repeat(with_reducible first|refine oA ?_|refine And.intro (by first|first|exact⟨by omega,by omega⟩|(refine⟨?_,?_⟩<;>omega)) ?_)
   refine hK7 _ ?_
   refine oW T_heldL_ok ?_
   simp only[go_sem]
   refine hL4 ⟨k+1,by omega⟩ _ (oK ?_) ?_
   ·
    simp (maxSteps:=2000000)only[go_sem]
    all_goals(first|rfl|((repeat' refine And.intro ?_ ?_)<;>first|rfl|exact wk (by omega)|(congr 1;done)|omega))
   ·
    first|(simp only[];omega)|omega|(simp;omega)
  intro c0
  refine AWP_exit ?_
  simp only[go_sem]
  refine hK2 _ ?_
  refine oS fun _ hK18=>?_
  refine oW T_heldL_ok ?_
  simp only[go_sem]
  refine hK18 _ ?_
  refine AWP_ret ?_
  simp only[hres,go_sem]
  first
   | exact oG
   | refine ⟨oG, ?_⟩
     have hk3:cntA ctX (xs.take k)=cntA ctX xs:=by rw[List.take_of_length_le (l:=xs) (i:=k) (by omega)]
     (repeat' refine And.intro ?_ ?_)<;>first|rfl|exact markT_all (by omega)|(congr 1;exact markT_all (by omega))|(rw[hk3])|omega
def T_markXs:Tab:=fun f=>if f=37 then some (.g K_markXs) else T_heldL f
theorem T_markXs_ok:TabOk Try.prog T_markXs:=tabG markXs_ok (fnOk_of Try.func37 rfl (by decide)) T_heldL_ok
attribute [go_sem] T_markXs K_markXs
def K_markG:GCon where
  ps:=[.ag [.rd (.int .i64),.rd (.int .i64),.ow 0,.ow 1,.ow 2],.val (.int .i64)]
  os:=[.tree 24 (.row 2 (.int .i64)),.tree 49 (.prod (.int .i64) (.prod (.int .i64) (.prod (.int .i64) (.prod (.int .i64) (.prod (.row 2 (.int .i64)) (.int .i64)))))),.row 2 (.int .i64)]
  c:=fun x=>mkOk x.1.2.1 (ctG (0,0,x.2.1,x.2.2.1,x.2.2.2.1))
  r:=fun x=>.c (.sc (.int .i64 (x.1.2.1+(ctG (0,0,x.2.1,x.2.2.1,x.2.2.2.1):Nat))))
  o:=fun x=>[(30,.tree 24 (.row 2 (.int .i64)) (markLL x.1.2.1 x.2.1) none),(31,.tree 49 (.prod (.int .i64) (.prod (.int .i64) (.prod (.int .i64) (.prod (.int .i64) (.prod (.row 2 (.int .i64)) (.int .i64)))))) (markXs (x.1.2.1+(cntA List.length x.2.1:Nat)) x.2.2.1) none),(32,.row 2 (.int .i64) (markL (x.1.2.1+(cntA List.length x.2.1:Nat)+(cntA ctX x.2.2.1:Nat)) x.2.2.2.1) [])]
  ok:=by
    rintro⟨⟨⟨(pi:Int),(rg:Int),_⟩,(kk:Int),_⟩,⟨(ts:List (List Int)),(xs:List InstrD),(os:List Int),_⟩⟩
    exact⟨rfl,rfl,by decide⟩
theorem markG_ok:GenT Try.prog 12 K_markG:=by
  refine gen_of_body Try.func12 rfl ?_
  have hres:Try.f12.results.toList=[.tmp 4]:=rfl
  rintro⟨⟨⟨(pi:Int),(rg:Int),_⟩,(kk:Int),_⟩,⟨(ts:List (List Int)),(xs:List InstrD),(os:List Int),_⟩⟩ hc hL hO
  simp only[K_markG,go_sem] at hL
  simp only[K_markG,go_sem] at hO
  simp only[K_markG,St.init,St.initG,Try.ntmps12,go_sem] 
  obtain⟨h1,h2⟩:=(show mkOk kk (ctG (0,0,ts,xs,os)) from hc)
  have hcp:ctG (0,0,ts,xs,os)=cntA List.length ts+cntA ctX xs+os.length:=rfl
  refine oS fun _ hK1=>?_
  refine oW T_markXs_ok ?_
  simp only[go_sem]
  repeat(with_reducible first|refine oA ?_|refine And.intro (by first|first|exact⟨by omega,by omega⟩) ?_)
  refine hK1 _ ?_
  refine oS fun _ hK2=>?_
  refine oW T_markXs_ok ?_
  simp (maxSteps:=2000000)only[go_sem]
  repeat(with_reducible first|refine oA ?_|refine And.intro (by first|first|exact⟨by omega,by omega⟩) ?_)
  refine hK2 _ ?_
  refine oS fun _ hK3=>?_
  refine oW T_markXs_ok ?_
  simp (maxSteps:=2000000)only[go_sem]
  repeat(with_reducible first|refine oA ?_|refine And.intro (by first|first|exact⟨by omega,by omega⟩) ?_)
  refine hK3 _ ?_
  refine oS fun _ hK4=>?_
  refine oW T_markXs_ok ?_
  simp (maxSteps:=2000000)only[go_sem]
  repeat(with_reducible first|refine oA ?_|refine And.intro (by first|first|exact⟨by omega,by omega⟩) ?_)
  refine hK4 _ ?_
  refine oS fun _ hK5=>?_
  refine oW T_markXs_ok ?_
  simp only[go_sem]
  repeat(with_reducible first|refine oA ?_|refine And.intro (by first|first|exact⟨by omega,by omega⟩) ?_)
  refine hK5 _ ?_
  refine AWP_ret ?_
  simp only[hres,go_sem]
  first|exact oG|(refine⟨oG,?_⟩;(repeat' refine And.intro ?_ ?_)<;>first|rfl|(rw[hcp];omega)|omega)
def T_markG:Tab:=fun f=>if f=12 then some (.g K_markG) else T_markXs f
theorem T_markG_ok:TabOk Try.prog T_markG:=tabG markG_ok (fnOk_of Try.func12 rfl (by decide)) T_markXs_ok
attribute [go_sem] T_markG K_markG
end Go.Proofs.Ytenjbehedcegdaa
