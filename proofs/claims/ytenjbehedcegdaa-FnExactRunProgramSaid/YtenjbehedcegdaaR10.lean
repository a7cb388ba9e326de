/-
  Texts of this claim, joined (part 10). No condition beyond those of the theorems.
-/
import Derived.Test.YtenjbehedcegdaaR07
import Derived.Test.YtenjbehedcegdaaR09
namespace Go.Proofs.Ytenjbehedcegdaa
open Go.RowKit
set_option linter.unusedSimpArgs false
set_option linter.unusedVariables false
set_option maxRecDepth 100000
set_option maxHeartbeats 1000000
def K_szX:Con:=⟨[.val ((.prod (.int .i64) (.prod (.int .i64) (.prod (.int .i64) (.prod (.int .i64) (.prod (.row 2 (.int .i64)) (.int .i64))))))),.val (.int .i64)],[⟨.int .i64,true⟩],fun x=>szOk x.2.1,fun x=>szR x.1.2.2.2.2.1.length x.2.1⟩
theorem szX_ok:PureT Try.prog 40 K_szX:=by
  refine pure_of_body Try.func40 rfl ?_
  have hres:Try.f40.results.toList=[.tmp 4]:=rfl
  rintro⟨⟨(kd:Int),(a:Int),(bb:Int),(nd:Int),(fr:List Int),(tt:Int)⟩,(lf:Int),_⟩ hc hL
  simp only[K_szX,go_sem] at hL
  simp only[K_szX,St.init,St.initG,Try.ntmps40,go_sem] 
  obtain⟨h1,h2⟩:=(show szOk lf from hc)
  refine oS fun _ hK1=>?_
  refine oW T_toP_ok ?_
  simp only[go_sem]
  repeat(with_reducible first|refine oA ?_|refine And.intro (by first|exact⟨by omega,by omega⟩) ?_)
  refine hK1 _ ?_
  refine oS fun _ hK2=>?_
  refine oW T_toP_ok ?_
  simp (maxSteps:=2000000)only[go_sem]
  repeat(with_reducible first|refine oA ?_|refine And.intro (by first|exact⟨by omega,by omega⟩) ?_)
  refine hK2 _ ?_
  refine oS fun _ hK3=>?_
  refine oS fun _ hK4=>?_
  refine oW T_toP_ok ?_
  simp only[go_sem]
  repeat(with_reducible first|refine oA ?_|refine And.intro (by first|exact⟨by omega,by omega⟩) ?_)
  refine hK4 _ ?_
  refine oC rfl ?_ ?_
  ·
   intro c0
   obtain⟨e1,e2⟩:=szR_lt (by omega) c0
   refine oS fun _ hK5=>?_
   refine oW T_toP_ok ?_
   simp only[go_sem]
   repeat(with_reducible first|refine oA ?_|refine And.intro (by first|exact⟨by omega,by omega⟩) ?_)
   refine hK5 _ ?_
   refine AWP_ret ?_
   simp only[hres,go_sem]
   first|exact oF|(refine⟨?_,oF⟩;exact e1.symm)
  intro c0
  refine AWP_skip ?_
  simp only[go_sem]
  refine hK3 _ ?_
  refine oS fun _ hK6=>?_
  refine oW T_toP_ok ?_
  simp only[go_sem]
  repeat(with_reducible first|refine oA ?_|refine And.intro (by first|exact⟨by omega,by omega⟩) ?_)
  refine hK6 _ ?_
  refine AWP_ret ?_
  simp only[hres,go_sem]
  first|exact oF|exact oFr
def T_szX:Tab:=fun f=>if f=40 then some (.p K_szX) else T_toP f
theorem T_szX_ok:TabOk Try.prog T_szX:=tabP szX_ok (fnOk_of Try.func40 rfl (by decide)) T_toP_ok
attribute [go_sem] T_szX K_szX
def K_szXs:Con:=⟨[.val ((.row 73 (.prod (.int .i64) (.prod (.int .i64) (.prod (.int .i64) (.prod (.int .i64) (.prod (.row 2 (.int .i64)) (.int .i64)))))))),.val (.int .i64)],[⟨.int .i64,true⟩],fun x=>szOk x.2.1,fun x=>szR (szXs x.1) x.2.1⟩
theorem szXs_ok:PureT Try.prog 15 K_szXs:=by
  refine pure_of_body Try.func15 rfl ?_
  have hres:Try.f15.results.toList=[.tmp 4]:=rfl
  rintro⟨(xs:List InstrD),(lf:Int),_⟩ hc hL
  simp only[K_szXs,go_sem] at hL
  obtain⟨lxs,lxs2⟩:=hL
  simp only[K_szXs,St.init,St.initG,Try.ntmps15,go_sem] 
  obtain⟨h1,h2⟩:=(show szOk lf from hc)
  have hw:IntKind.i64.wrap (lf - (xs.length:Int))=lf - xs.length:=wrapI (by omega)
  have htot:szXs xs=xs.length+cntA fromX xs:=rfl
  refine oS fun _ hK1=>?_
  refine oW T_szX_ok ?_
  simp only[go_sem]
  refine hK1 _ ?_
  refine oS fun _ hK2=>?_
  refine oW T_szX_ok ?_
  simp (maxSteps:=2000000)only[hw,go_sem]
  refine hK2 _ ?_
  refine oS fun _ hK3=>?_
  refine oS fun _ hK4=>?_
  refine oW T_szX_ok ?_
  simp only[go_sem]
  refine hK4 _ ?_
  refine oC rfl ?_ ?_
  ·
   intro c0
   refine oS fun _ hK5=>?_
   refine oW T_szX_ok ?_
   simp only[go_sem]
   refine hK5 _ ?_
   refine AWP_ret ?_
   simp only[hres,go_sem]
   first|exact oF|(refine⟨?_,oF⟩;exact(szR_t (by omega)).symm)
  intro c0
  refine AWP_skip ?_
  simp only[go_sem]
  refine hK3 _ ?_
  refine oS fun _ hK6=>?_
  refine oS fun _ hK7=>?_
  refine oW T_szX_ok ?_
  simp only[go_sem]
  refine hK7 _ ?_
  refine AWP_block ?_
  refine AWP_loop_k (ι:={ k:Nat // k≤xs.length∧xs.length+cntA fromX (xs.take k)≤lf.toNat }) (fun k=>⟨[.c (.rd [] 73 ((.prod (.int .i64) (.prod (.int .i64) (.prod (.int .i64) (.prod (.int .i64) (.prod (.row 2 (.int .i64)) (.int .i64))))))) (xs)),.c (.sc (.int .i64 (lf - xs.length - (cntA fromX (xs.take k.1):Nat)))),zz,zz,zz,.c (.sc (.int .i64 (k.1))),zz,zz,zz,zz,zz,zz,zz,zz,zz,zz,zz,zz,zz,zz,zz,zz,zz,zz,zz,zz,zz],[]⟩) (fun k=>xs.length - k.1) ⟨0,by simp,by simp[cntA];omega⟩ ?_ ?_
  ·
   refine oK ?_
   simp (maxSteps:=2000000)only[go_sem]
   all_goals(first|rfl|(simp[cntA];done)|((repeat' refine And.intro ?_ ?_)<;>first|rfl|simp[cntA]))
  rintro⟨k,hk,hp⟩ K8 hL8
  have hnx:k < xs.length→cntA fromX (xs.take (k+1))=cntA fromX (xs.take k)+fromX (xs.getD k ((0,0,0,0,[],0):InstrD)):=fun h=>cntA_next _ h
  have hle:cntA fromX (xs.take (k+1))≤cntA fromX xs:=cntA_take _
  have hfm:fromX (xs.getD k ((0,0,0,0,[],0):InstrD))=List.length (xs.getD k ((0,0,0,0,[],0):InstrD)).2.2.2.2.1:=rfl
  refine oS fun _ hK9=>?_
  refine oS fun _ hK10=>?_
  refine oW T_szX_ok ?_
  simp only[go_sem]
  refine hK10 _ ?_
  refine oC rfl ?_ ?_
  ·
   intro c1
   refine AWP_skip ?_
   simp only[go_sem]
   refine hK9 _ ?_
   refine oS fun _ hK11=>?_
   refine AWP_block ?_
   refine oS fun _ hK12=>?_
   refine oW T_szX_ok ?_
   simp (maxSteps:=2000000)only[go_sem]
   repeat(with_reducible first|refine oA ?_|refine And.intro (by first|exact⟨by omega,by omega⟩) ?_)
   refine hK12 _ ?_
   refine oS fun _ hK13=>?_
   refine oW T_szX_ok ?_
   simp only[go_sem]
   refine hK13 _ ?_
   refine oC rfl ?_ ?_
   ·
    intro c2
    have hq:=hnx (by omega)
    obtain⟨e1,e2⟩:=szR_lt (by omega) c2
    refine oS fun _ hK14=>?_
    refine oW T_szX_ok ?_
    simp only[go_sem]
    refine hK14 _ ?_
    refine AWP_ret ?_
    simp only[hres,go_sem]
    first|exact oF|(refine⟨?_,oF⟩;exact(szR_t (by omega)).symm)
   intro c2
   have hq:=hnx (by omega)
   obtain⟨e1,e2⟩:=szR_ge' c2
   refine AWP_skip ?_
   simp only[go_sem]
   refine hK11 _ ?_
   refine oW T_szX_ok ?_
   simp only[go_sem]
   refine hL8 ⟨k+1,by omega,by omega⟩ _ (oK ?_) ?_
   ·
    simp (maxSteps:=2000000)only[go_sem]
    all_goals(first|rfl|((repeat' refine And.intro ?_ ?_)<;>first|rfl|exact wk (by omega)|omega))
   ·
    first|(simp only[];omega)|omega|(simp;omega)
  intro c1
  refine AWP_exit ?_
  simp only[go_sem]
  refine hK6 _ ?_
  refine oS fun _ hK15=>?_
  refine oW T_szX_ok ?_
  simp only[go_sem]
  refine hK15 _ ?_
  refine AWP_ret ?_
  simp only[hres,go_sem]
  first
   | exact oF
   | refine ⟨?_, oF⟩
     have hk3:cntA fromX (xs.take k)=cntA fromX xs:=by rw[List.take_of_length_le (by omega)]
     exact szR_f' (n:=szXs xs) (l:=lf) (by omega) (by omega)
def T_szXs:Tab:=fun f=>if f=15 then some (.p K_szXs) else T_szX f
theorem T_szXs_ok:TabOk Try.prog T_szXs:=tabP szXs_ok (fnOk_of Try.func15 rfl (by decide)) T_szX_ok
attribute [go_sem] T_szXs K_szXs
def K_szPg:Con:=⟨[.val ((.prod (.int .i64) (.prod (.int .i64) (.prod (.row 24 (.row 2 (.int .i64))) (.prod (.row 73 (.prod (.int .i64) (.prod (.int .i64) (.prod (.int .i64) (.prod (.int .i64) (.prod (.row 2 (.int .i64)) (.int .i64))))))) (.row 2 (.int .i64))))))),.val (.int .i64)],[⟨.int .i64,true⟩],fun x=>szOk x.2.1,fun x=>szR (szG x.1) x.2.1⟩
theorem szPg_ok:PureT Try.prog 4 K_szPg:=by
  refine pure_of_body Try.func4 rfl ?_
  have hres:Try.f4.results.toList=[.tmp 4]:=rfl
  rintro⟨⟨(gi:Int),(gr:Int),(ts:List (List Int)),(xs:List InstrD),(os:List Int)⟩,(lf:Int),_⟩ hc hL
  simp only[K_szPg,go_sem] at hL
  simp only[K_szPg,St.init,St.initG,Try.ntmps4,go_sem] 
  obtain⟨h1,h2⟩:=(show szOk lf from hc)
  have htot:szG (gi,gr,ts,xs,os)=szL ts+szXs xs+os.length:=rfl
  refine oS fun _ hK1=>?_
  refine oW T_szXs_ok ?_
  simp only[go_sem]
  repeat(with_reducible first|refine oA ?_|refine And.intro (by first|exact⟨by omega,by omega⟩) ?_)
  refine hK1 _ ?_
  refine oS fun _ hK2=>?_
  refine oW T_szXs_ok ?_
  simp (maxSteps:=2000000)only[go_sem]
  repeat(with_reducible first|refine oA ?_|refine And.intro (by first|exact⟨by omega,by omega⟩) ?_)
  refine hK2 _ ?_
  refine oS fun _ hK3=>?_
  refine oS fun _ hK4=>?_
  refine oW T_szXs_ok ?_
  simp only[go_sem]
  repeat(with_reducible first|refine oA ?_|refine And.intro (by first|exact⟨by omega,by omega⟩) ?_)
  refine hK4 _ ?_
  refine oC rfl ?_ ?_
  ·
   intro c0
   obtain⟨e1,e2⟩:=szR_lt (by omega) c0
   refine oS fun _ hK5=>?_
   refine oW T_szXs_ok ?_
   simp only[go_sem]
   repeat(with_reducible first|refine oA ?_|refine And.intro (by first|exact⟨by omega,by omega⟩) ?_)
   refine hK5 _ ?_
   refine AWP_ret ?_
   simp only[hres,go_sem]
   first|exact oF|(refine⟨?_,oF⟩;first|exact(szR_t (n:=szG (gi,gr,ts,xs,os)) (l:=lf) (by omega)).symm|exact szR_f' (n:=szG (gi,gr,ts,xs,os)) (l:=lf) (by omega) (by omega))
  intro c0
  obtain⟨e1,e2⟩:=szR_ge' c0
  refine AWP_skip ?_
  simp only[go_sem]
  refine hK3 _ ?_
  refine oS fun _ hK6=>?_
  refine oW T_szXs_ok ?_
  simp (maxSteps:=2000000)only[go_sem]
  repeat(with_reducible first|refine oA ?_|refine And.intro (by first|exact⟨by omega,by omega⟩) ?_)
  refine hK6 _ ?_
  refine oS fun _ hK7=>?_
  refine oS fun _ hK8=>?_
  refine oW T_szXs_ok ?_
  simp only[go_sem]
  repeat(with_reducible first|refine oA ?_|refine And.intro (by first|exact⟨by omega,by omega⟩) ?_)
  refine hK8 _ ?_
  refine oC rfl ?_ ?_
  ·
   intro c1
   obtain⟨e3,e4⟩:=szR_lt (by omega) c1
   refine oS fun _ hK9=>?_
   refine oW T_szXs_ok ?_
   simp only[go_sem]
   repeat(with_reducible first|refine oA ?_|refine And.intro (by first|exact⟨by omega,by omega⟩) ?_)
   refine hK9 _ ?_
   refine AWP_ret ?_
   simp only[hres,go_sem]
   first|exact oF|(refine⟨?_,oF⟩;first|exact(szR_t (n:=szG (gi,gr,ts,xs,os)) (l:=lf) (by omega)).symm|exact szR_f' (n:=szG (gi,gr,ts,xs,os)) (l:=lf) (by omega) (by omega))
  intro c1
  obtain⟨e3,e4⟩:=szR_ge' c1
  refine AWP_skip ?_
  simp only[go_sem]
  refine hK7 _ ?_
  refine oS fun _ hK10=>?_
  refine oW T_szXs_ok ?_
  simp (maxSteps:=2000000)only[go_sem]
  repeat(with_reducible first|refine oA ?_|refine And.intro (by first|exact⟨by omega,by omega⟩) ?_)
  refine hK10 _ ?_
  refine oS fun _ hK11=>?_
  refine oS fun _ hK12=>?_
  refine oW T_szXs_ok ?_
  simp only[go_sem]
  repeat(with_reducible first|refine oA ?_|refine And.intro (by first|exact⟨by omega,by omega⟩) ?_)
  refine hK12 _ ?_
  refine oC rfl ?_ ?_
  ·
   intro c2
   obtain⟨e5,e6⟩:=szR_lt (by omega) c2
   refine oS fun _ hK13=>?_
   refine oW T_szXs_ok ?_
   simp only[go_sem]
   repeat(with_reducible first|refine oA ?_|refine And.intro (by first|exact⟨by omega,by omega⟩) ?_)
   refine hK13 _ ?_
   refine AWP_ret ?_
   simp only[hres,go_sem]
   first|exact oF|(refine⟨?_,oF⟩;first|exact(szR_t (n:=szG (gi,gr,ts,xs,os)) (l:=lf) (by omega)).symm|exact szR_f' (n:=szG (gi,gr,ts,xs,os)) (l:=lf) (by omega) (by omega))
  intro c2
  obtain⟨e5,e6⟩:=szR_ge' c2
  refine AWP_skip ?_
  simp only[go_sem]
  refine hK11 _ ?_
  refine oS fun _ hK14=>?_
  refine oW T_szXs_ok ?_
  simp only[go_sem]
  repeat(with_reducible first|refine oA ?_|refine And.intro (by first|exact⟨by omega,by omega⟩) ?_)
  refine hK14 _ ?_
  refine AWP_ret ?_
  simp only[hres,go_sem]
  first|exact oF|(refine⟨?_,oF⟩;first|exact(szR_t (n:=szG (gi,gr,ts,xs,os)) (l:=lf) (by omega)).symm|exact szR_f' (n:=szG (gi,gr,ts,xs,os)) (l:=lf) (by omega) (by omega))
def T_szPg:Tab:=fun f=>if f=4 then some (.p K_szPg) else T_szXs f
theorem T_szPg_ok:TabOk Try.prog T_szPg:=tabP szPg_ok (fnOk_of Try.func4 rfl (by decide)) T_szXs_ok
attribute [go_sem] T_szPg K_szPg
def K_toX:Con:=⟨[.val ((.prod (.int .i64) (.prod (.int .i64) (.prod (.int .i64) (.prod (.int .i64) (.prod (.row 2 (.int .i64)) (.int .i64)))))))],[⟨(.prod (.int .i64) (.prod (.int .i64) (.prod (.int .i64) (.prod (.int .i64) (.prod (.row 2 (.int .i64)) (.int .i64)))))),true⟩],fun x=>x.1.2.2.2.2.1.length≤1099511627776,fun x=>x.1⟩
theorem toX_ok:PureT Try.prog 53 K_toX:=by
  refine pure_of_body Try.func53 rfl ?_
  have hres:Try.f53.results.toList=[.cell 2 49]:=rfl
  rintro⟨⟨(kd:Int),(a:Int),(bb:Int),(nd:Int),(fr:List Int),(tt:Int)⟩,_⟩ hc hL
  simp only[K_toX,go_sem] at hL
  simp only[K_toX,St.init,St.initG,Try.ntmps53,go_sem] 
  have hx:fr.length≤1099511627776:=hc
  refine oS fun _ hK1=>?_
  refine oW T_szPg_ok ?_
  simp only[go_sem]
  refine hK1 _ ?_
  refine oS fun _ hK2=>?_
  refine oW T_szPg_ok ?_
  simp only[go_sem]
  refine hK2 _ ?_
  refine oS fun _ hK3=>?_
  refine oW T_szPg_ok ?_
  simp only[go_sem]
  repeat(with_reducible refine oA ?_)
  refine hK3 _ ?_
  refine oS fun _ hK4=>?_
  refine oW T_szPg_ok ?_
  simp only[go_sem]
  repeat(with_reducible refine oA ?_)
  refine hK4 _ ?_
  refine oS fun _ hK5=>?_
  refine oW T_szPg_ok ?_
  simp only[go_sem]
  repeat(with_reducible refine oA ?_)
  refine hK5 _ ?_
  refine oS fun _ hK6=>?_
  refine oW T_szPg_ok ?_
  simp only[go_sem]
  repeat(with_reducible refine oA ?_)
  refine hK6 _ ?_
  refine oS fun _ hK7=>?_
  refine oW T_szPg_ok ?_
  simp (maxSteps:=2000000)only[go_sem]
  repeat(with_reducible refine oA ?_)
  refine hK7 _ ?_
  refine oS fun _ hK8=>?_
  refine oW T_szPg_ok ?_
  simp only[go_sem]
  repeat(with_reducible refine oA ?_)
  refine hK8 _ ?_
  refine oS fun _ hK9=>?_
  refine oW T_szPg_ok ?_
  simp only[go_sem]
  repeat(with_reducible refine oA ?_)
  refine hK9 _ ?_
  refine AWP_ret ?_
  simp only[hres,go_sem]
  first|exact oF|exact oFr
def T_toX:Tab:=fun f=>if f=53 then some (.p K_toX) else T_szPg f
theorem T_toX_ok:TabOk Try.prog T_toX:=tabP toX_ok (fnOk_of Try.func53 rfl (by decide)) T_szPg_ok
attribute [go_sem] T_toX K_toX
def K_toXs:Con:=⟨[.val ((.row 73 (.prod (.int .i64) (.prod (.int .i64) (.prod (.int .i64) (.prod (.int .i64) (.prod (.row 2 (.int .i64)) (.int .i64))))))))],[⟨(.row 49 (.prod (.int .i64) (.prod (.int .i64) (.prod (.int .i64) (.prod (.int .i64) (.prod (.row 2 (.int .i64)) (.int .i64))))))),true⟩],fun x=>fitsX x.1,fun x=>x.1⟩
theorem toXs_ok:PureT Try.prog 23 K_toXs:=by
  refine pure_of_body Try.func23 rfl ?_
  have hres:Try.f23.results.toList=[.tmp 2]:=rfl
  rintro⟨(xs:List InstrD),_⟩ hc hL
  simp only[K_toXs,go_sem] at hL
  simp only[K_toXs,St.init,St.initG,Try.ntmps23,go_sem] 
  obtain⟨hx,hy⟩:=(show fitsX xs from hc)
  refine oS fun _ hK1=>?_
  refine oW T_toX_ok ?_
  simp only[go_sem]
  refine hK1 _ ?_
  refine oS fun _ hK2=>?_
  refine oW T_toX_ok ?_
  simp only[List.nodup_nil,go_sem]
  repeat(with_reducible refine oA ?_)
  refine hK2 _ ?_
  refine oS fun _ hK3=>?_
  refine oS fun _ hK4=>?_
  refine oW T_toX_ok ?_
  simp only[go_sem]
  refine hK4 _ ?_
  refine AWP_block ?_
  refine AWP_loop_k (ι:={ k:Nat // k≤xs.length }) (fun k=>⟨[.c (.rd [] 73 ((.prod (.int .i64) (.prod (.int .i64) (.prod (.int .i64) (.prod (.int .i64) (.prod (.row 2 (.int .i64)) (.int .i64))))))) (xs)),zz,zz,.c (.ow 212),.c (.sc (.int .i64 (k.1))),zz,zz,zz,zz,zz,zz,zz,zz,zz,zz,zz,zz,zz,zz,zz,zz,zz,zz],[(212,.tree 49 (.prod (.int .i64) (.prod (.int .i64) (.prod (.int .i64) (.prod (.int .i64) (.prod (.row 2 (.int .i64)) (.int .i64)))))) (fillT ((0,0,0,0,[],0):InstrD) xs k.1) none)]⟩) (fun k=>xs.length - k.1) ⟨0,by simp⟩ ?_ ?_
  ·
   refine oK ?_
   simp (maxSteps:=2000000)only[go_sem]
   all_goals(first|rfl|((repeat' refine And.intro ?_ ?_)<;>first|rfl|exact fillT_zero.symm|(rw[fillT_zero];simp)))
  rintro⟨k,hk⟩ K5 hL5
  have hfl:(fillT ((0,0,0,0,[],0):InstrD) xs k).length=xs.length:=fillT_len hk
  have hft:k < xs.length→(fillT ((0,0,0,0,[],0):InstrD) xs k).set k (xs.getD k ((0,0,0,0,[],0):InstrD))=fillT ((0,0,0,0,[],0):InstrD) xs (k+1):=fun h=>fillT_set _ h
  have hyk:k < xs.length→(xs.getD k ((0,0,0,0,[],0):InstrD)).2.2.2.2.1.length≤1099511627776:=fun h=>hy _ (getD_mem h)
  refine oS fun _ hK6=>?_
  refine oS fun _ hK7=>?_
  refine oW T_toX_ok ?_
  simp only[go_sem]
  refine hK7 _ ?_
  refine oC rfl ?_ ?_
  ·
   intro c0
   refine AWP_skip ?_
   simp only[go_sem]
   refine hK6 _ ?_
   refine oS fun _ hK8=>?_
   refine AWP_block ?_
   refine oW T_toX_ok ?_
   simp (maxSteps:=2000000)only[List.nodup_cons,List.nodup_nil,List.not_mem_nil,not_false_eq_true,go_sem]
   repeat(with_reducible first|refine oA ?_|refine And.intro (by first|exact hyk (by omega)) ?_)
   refine hK8 _ ?_
   refine oW T_toX_ok ?_
   simp only[go_sem]
   refine hL5 ⟨k+1,by omega⟩ _ (oK ?_) ?_
   ·
    simp (maxSteps:=2000000)only[go_sem]
    all_goals(first|rfl|exact wk (by omega)|((repeat' refine And.intro ?_ ?_)<;>first|rfl|exact wk (by omega)|exact hft (by omega)|(congr 1;exact hft (by omega))))
   ·
    first|(simp only[];omega)|omega|(simp;omega)
  intro c0
  refine AWP_exit ?_
  simp only[go_sem]
  refine hK3 _ ?_
  refine oS fun _ hK9=>?_
  refine oW T_toX_ok ?_
  simp only[go_sem]
  refine hK9 _ ?_
  refine AWP_ret ?_
  simp only[hres,go_sem]
  first|exact oF|(refine⟨?_,oF⟩;exact fillT_all (by omega))
def T_toXs:Tab:=fun f=>if f=23 then some (.p K_toXs) else T_toX f
theorem T_toXs_ok:TabOk Try.prog T_toXs:=tabP toXs_ok (fnOk_of Try.func23 rfl (by decide)) T_toX_ok
attribute [go_sem] T_toXs K_toXs
def K_toPg:Con:=⟨[.val ((.prod (.int .i64) (.prod (.int .i64) (.prod (.row 24 (.row 2 (.int .i64))) (.prod (.row 73 (.prod (.int .i64) (.prod (.int .i64) (.prod (.int .i64) (.prod (.int .i64) (.prod (.row 2 (.int .i64)) (.int .i64))))))) (.row 2 (.int .i64)))))))],[⟨(.prod (.int .i64) (.prod (.int .i64) (.prod (.row 24 (.row 2 (.int .i64))) (.prod (.row 49 (.prod (.int .i64) (.prod (.int .i64) (.prod (.int .i64) (.prod (.int .i64) (.prod (.row 2 (.int .i64)) (.int .i64))))))) (.row 2 (.int .i64)))))),true⟩],fun x=>fitsG x.1,fun x=>x.1⟩
theorem toPg_ok:PureT Try.prog 7 K_toPg:=by
  refine pure_of_body Try.func7 rfl ?_
  have hres:Try.f7.results.toList=[.cell 2 33]:=rfl
  rintro⟨⟨(gi:Int),(gr:Int),(ts:List (List Int)),(xs:List InstrD),(os:List Int)⟩,_⟩ hc hL
  simp only[K_toPg,go_sem] at hL
  simp only[K_toPg,St.init,St.initG,Try.ntmps7,go_sem] 
  obtain⟨hx,hy,hz⟩:=(show fitsG (gi,gr,ts,xs,os) from hc)
  refine oS fun _ hK1=>?_
  refine oW T_toXs_ok ?_
  simp only[go_sem]
  repeat(with_reducible first|refine oA ?_|refine And.intro (by first|assumption) ?_)
  refine hK1 _ ?_
  refine oS fun _ hK2=>?_
  refine oW T_toXs_ok ?_
  simp only[go_sem]
  repeat(with_reducible first|refine oA ?_|refine And.intro (by first|assumption) ?_)
  refine hK2 _ ?_
  refine oS fun _ hK3=>?_
  refine oW T_toXs_ok ?_
  simp only[go_sem]
  repeat(with_reducible first|refine oA ?_|refine And.intro (by first|assumption) ?_)
  refine hK3 _ ?_
  refine oS fun _ hK4=>?_
  refine oW T_toXs_ok ?_
  simp only[go_sem]
  repeat(with_reducible first|refine oA ?_|refine And.intro (by first|assumption) ?_)
  refine hK4 _ ?_
  refine oS fun _ hK5=>?_
  refine oW T_toXs_ok ?_
  simp (maxSteps:=2000000)only[go_sem]
  repeat(with_reducible first|refine oA ?_|refine And.intro (by first|assumption) ?_)
  refine hK5 _ ?_
  refine oS fun _ hK6=>?_
  refine oW T_toXs_ok ?_
  simp (maxSteps:=2000000)only[go_sem]
  repeat(with_reducible first|refine oA ?_|refine And.intro (by first|assumption) ?_)
  refine hK6 _ ?_
  refine oS fun _ hK7=>?_
  refine oW T_toXs_ok ?_
  simp (maxSteps:=2000000)only[go_sem]
  repeat(with_reducible first|refine oA ?_|refine And.intro (by first|assumption) ?_)
  refine hK7 _ ?_
  refine oS fun _ hK8=>?_
  refine oW T_toXs_ok ?_
  simp only[go_sem]
  repeat(with_reducible first|refine oA ?_|refine And.intro (by first|assumption) ?_)
  refine hK8 _ ?_
  refine AWP_ret ?_
  simp only[hres,go_sem]
  first|exact oF|exact oFr
def T_toPg:Tab:=fun f=>if f=7 then some (.p K_toPg) else T_toXs f
theorem T_toPg_ok:TabOk Try.prog T_toPg:=tabP toPg_ok (fnOk_of Try.func7 rfl (by decide)) T_toXs_ok
attribute [go_sem] T_toPg K_toPg
end Go.Proofs.Ytenjbehedcegdaa
