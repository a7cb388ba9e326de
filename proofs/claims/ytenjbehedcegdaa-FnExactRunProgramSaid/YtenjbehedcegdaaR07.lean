/-
  Texts of this claim, joined (part 7). No condition beyond those of the theorems.
-/
import Derived.Test.YtenjbehedcegdaaR05
import Derived.Test.YtenjbehedcegdaaR06
namespace Go.Proofs.Ytenjbehedcegdaa
open Go.RowKit
set_option linter.unusedSimpArgs false
set_option linter.unusedVariables false
set_option maxRecDepth 100000
set_option maxHeartbeats 1000000
def K_szI:Con:=⟨[.val ((.row 2 (.int .i64))),.val (.int .i64)],[⟨.int .i64,true⟩],fun x=>szOk x.2.1,fun x=>szR x.1.length x.2.1⟩
theorem szI_ok:PureT Try.prog 16 K_szI:=by
  refine pure_of_body Try.func16 rfl ?_
  have hres:Try.f16.results.toList=[.tmp 4]:=rfl
  rintro⟨(xs:List Int),(lf:Int),_⟩ hc hL
  simp only[K_szI,go_sem] at hL
  obtain lxs:=hL
  simp only[K_szI,St.init,St.initG,Try.ntmps16,go_sem] 
  obtain⟨h1,h2⟩:=(show szOk lf from hc)
  have hw:IntKind.i64.wrap (lf - (xs.length:Int))=lf - xs.length:=wrapI (by omega)
  refine oS fun _ hK1=>?_
  refine oW T_kinds_ok ?_
  simp only[go_sem]
  refine hK1 _ ?_
  refine oS fun _ hK2=>?_
  refine oW T_kinds_ok ?_
  simp (maxSteps:=2000000)only[hw,go_sem]
  refine hK2 _ ?_
  refine oS fun _ hK3=>?_
  refine oS fun _ hK4=>?_
  refine oW T_kinds_ok ?_
  simp only[go_sem]
  refine hK4 _ ?_
  refine oC rfl ?_ ?_
  ·
   intro c0
   refine oS fun _ hK5=>?_
   refine oW T_kinds_ok ?_
   simp only[go_sem]
   refine hK5 _ ?_
   refine AWP_ret ?_
   simp only[hres,go_sem]
   first|exact oF|(refine⟨?_,oF⟩;exact(szR_t (by omega)).symm)
  intro c0
  refine AWP_skip ?_
  simp only[go_sem]
  refine hK3 _ ?_
  refine oS fun _ hK6=>?_
  refine oW T_kinds_ok ?_
  simp only[go_sem]
  refine hK6 _ ?_
  refine AWP_ret ?_
  simp only[hres,go_sem]
  first|exact oF|(refine⟨?_,oF⟩;first|exact(szR_f (by omega)).symm|(rw[szR_f (by omega)];omega))
def T_szI:Tab:=fun f=>if f=16 then some (.p K_szI) else T_kinds f
theorem T_szI_ok:TabOk Try.prog T_szI:=tabP szI_ok (fnOk_of Try.func16 rfl (by decide)) T_kinds_ok
attribute [go_sem] T_szI K_szI
def K_szL:Con:=⟨[.val ((.row 24 (.row 2 (.int .i64)))),.val (.int .i64)],[⟨.int .i64,true⟩],fun x=>szOk x.2.1,fun x=>szR (szL x.1) x.2.1⟩
theorem szL_ok:PureT Try.prog 5 K_szL:=by
  refine pure_of_body Try.func5 rfl ?_
  have hres:Try.f5.results.toList=[.tmp 4]:=rfl
  rintro⟨(xs:List (List Int)),(lf:Int),_⟩ hc hL
  simp only[K_szL,go_sem] at hL
  obtain⟨lxs,lxs2⟩:=hL
  simp only[K_szL,St.init,St.initG,Try.ntmps5,go_sem] 
  obtain⟨h1,h2⟩:=(show szOk lf from hc)
  have hw:IntKind.i64.wrap (lf - (xs.length:Int))=lf - xs.length:=wrapI (by omega)
  have htot:szL xs=xs.length+cntA List.length xs:=rfl
  refine oS fun _ hK1=>?_
  refine oW T_szI_ok ?_
  simp only[go_sem]
  refine hK1 _ ?_
  refine oS fun _ hK2=>?_
  refine oW T_szI_ok ?_
  simp (maxSteps:=2000000)only[hw,go_sem]
  refine hK2 _ ?_
  refine oS fun _ hK3=>?_
  refine oS fun _ hK4=>?_
  refine oW T_szI_ok ?_
  simp only[go_sem]
  refine hK4 _ ?_
  refine oC rfl ?_ ?_
  ·
   intro c0
   refine oS fun _ hK5=>?_
   refine oW T_szI_ok ?_
   simp only[go_sem]
   refine hK5 _ ?_
   refine AWP_ret ?_
   simp only[hres,go_sem]
   first|exact oF|(refine⟨?_,oF⟩;exact(szR_t (by omega)).symm)
  intro c0
  refine AWP_skip ?_
  simp only[go_sem]
  refine hK3 _ ?_
  refine oS fun _ hK6=>?_
  refine oS fun _ hK7=>?_
  refine oW T_szI_ok ?_
  simp only[go_sem]
  refine hK7 _ ?_
  refine AWP_block ?_
  refine AWP_loop_k (ι:={ k:Nat // k≤xs.length∧xs.length+cntA List.length (xs.take k)≤lf.toNat }) (fun k=>⟨[.c (.rd [] 24 (.row 2 (.int .i64)) (xs)),.c (.sc (.int .i64 (lf - xs.length - (cntA List.length (xs.take k.1):Nat)))),zz,zz,zz,.c (.sc (.int .i64 (k.1))),zz,zz,zz,zz,zz,zz,zz,zz,zz,zz,zz,zz,zz,zz,zz,zz,zz,zz,zz,zz,zz],[]⟩) (fun k=>xs.length - k.1) ⟨0,by simp,by simp[cntA];omega⟩ ?_ ?_
  ·
   refine oK ?_
   simp (maxSteps:=2000000)only[go_sem]
   all_goals(first|rfl|(simp[cntA];done)|((repeat' refine And.intro ?_ ?_)<;>first|rfl|simp[cntA]))
  rintro⟨k,hk,hp⟩ K8 hL8
  have hnx:k < xs.length→cntA List.length (xs.take (k+1))=cntA List.length (xs.take k)+List.length (xs.getD k ([]:List Int)):=fun h=>cntA_next _ h
  have hle:cntA List.length (xs.take (k+1))≤cntA List.length xs:=cntA_take _
  refine oS fun _ hK9=>?_
  refine oS fun _ hK10=>?_
  refine oW T_szI_ok ?_
  simp only[go_sem]
  refine hK10 _ ?_
  refine oC rfl ?_ ?_
  ·
   intro c1
   refine AWP_skip ?_
   simp only[go_sem]
   refine hK9 _ ?_
   refine oS fun _ hK11=>?_
   refine AWP_block ?_
   refine oS fun _ hK12=>?_
   refine oW T_szI_ok ?_
   simp (maxSteps:=2000000)only[go_sem]
   repeat(with_reducible first|refine oA ?_|refine And.intro (by first|exact⟨by omega,by omega⟩) ?_)
   refine hK12 _ ?_
   refine oS fun _ hK13=>?_
   refine oW T_szI_ok ?_
   simp only[go_sem]
   refine hK13 _ ?_
   refine oC rfl ?_ ?_
   ·
    intro c2
    have hq:=hnx (by omega)
    obtain⟨e1,e2⟩:=szR_lt (by omega) c2
    refine oS fun _ hK14=>?_
    refine oW T_szI_ok ?_
    simp only[go_sem]
    refine hK14 _ ?_
    refine AWP_ret ?_
    simp only[hres,go_sem]
    first|exact oF|(refine⟨?_,oF⟩;exact(szR_t (by omega)).symm)
   intro c2
   have hq:=hnx (by omega)
   obtain⟨e1,e2⟩:=szR_ge' c2
   refine AWP_skip ?_
   simp only[go_sem]
   refine hK11 _ ?_
   refine oW T_szI_ok ?_
   simp only[go_sem]
   refine hL8 ⟨k+1,by omega,by omega⟩ _ (oK ?_) ?_
   ·
    simp (maxSteps:=2000000)only[go_sem]
    all_goals(first|rfl|((repeat' refine And.intro ?_ ?_)<;>first|rfl|exact wk (by omega)|omega))
   ·
    first|(simp only[];omega)|omega|(simp;omega)
  intro c1
  refine AWP_exit ?_
  simp only[go_sem]
  refine hK6 _ ?_
  refine oS fun _ hK15=>?_
  refine oW T_szI_ok ?_
  simp only[go_sem]
  refine hK15 _ ?_
  refine AWP_ret ?_
  simp only[hres,go_sem]
  first
   | exact oF
   | refine ⟨?_, oF⟩
     have hk3:cntA List.length (xs.take k)=cntA List.length xs:=by rw[List.take_of_length_le (by omega)]
     exact szR_f' (n:=szL xs) (l:=lf) (by omega) (by omega)
def T_szL:Tab:=fun f=>if f=5 then some (.p K_szL) else T_szI f
theorem T_szL_ok:TabOk Try.prog T_szL:=tabP szL_ok (fnOk_of Try.func5 rfl (by decide)) T_szI_ok
attribute [go_sem] T_szL K_szL
def K_toI:Con:=⟨[.val ((.row 2 (.int .i64)))],[⟨(.row 2 (.int .i64)),true⟩],fun x=>x.1.length≤1099511627776,fun x=>x.1⟩
theorem toI_ok:PureT Try.prog 24 K_toI:=by
  refine pure_of_body Try.func24 rfl ?_
  have hres:Try.f24.results.toList=[.tmp 2]:=rfl
  rintro⟨(xs:List Int),_⟩ hc hL
  simp only[K_toI,go_sem] at hL
  simp only[K_toI,St.init,St.initG,Try.ntmps24,go_sem] 
  have hx:xs.length≤1099511627776:=hc
  refine oS fun _ hK1=>?_
  refine oW T_szL_ok ?_
  simp only[go_sem]
  refine hK1 _ ?_
  refine oS fun _ hK2=>?_
  refine oW T_szL_ok ?_
  simp only[List.nodup_nil,go_sem]
  repeat(with_reducible refine oA ?_)
  refine hK2 _ ?_
  refine oS fun _ hK3=>?_
  refine oS fun _ hK4=>?_
  refine oW T_szL_ok ?_
  simp only[go_sem]
  refine hK4 _ ?_
  refine AWP_block ?_
  refine AWP_loop_k (ι:={ k:Nat // k≤xs.length }) (fun k=>⟨[.c (.rd [] 2 (.int .i64) (xs)),zz,zz,.c (.ow 212),.c (.sc (.int .i64 (k.1))),zz,zz,zz,zz,zz,zz,zz,zz,zz,zz,zz,zz,zz,zz,zz,zz,zz],[(212,.row 2 (.int .i64) (fillT (0:Int) xs k.1) [])]⟩) (fun k=>xs.length - k.1) ⟨0,by simp⟩ ?_ ?_
  ·
   refine oK ?_
   simp (maxSteps:=2000000)only[go_sem]
   all_goals(first|rfl|((repeat' refine And.intro ?_ ?_)<;>first|rfl|exact fillT_zero.symm|(rw[fillT_zero];simp)))
  rintro⟨k,hk⟩ K5 hL5
  have hfl:(fillT (0:Int) xs k).length=xs.length:=fillT_len hk
  have hft:k < xs.length→(fillT (0:Int) xs k).set k (xs.getD k (0:Int))=fillT (0:Int) xs (k+1):=fun h=>fillT_set _ h
  refine oS fun _ hK6=>?_
  refine oS fun _ hK7=>?_
  refine oW T_szL_ok ?_
  simp only[go_sem]
  refine hK7 _ ?_
  refine oC rfl ?_ ?_
  ·
   intro c0
   refine AWP_skip ?_
   simp only[go_sem]
   refine hK6 _ ?_
   refine oS fun _ hK8=>?_
   refine AWP_block ?_
   refine oW T_szL_ok ?_
   simp (maxSteps:=2000000)only[go_sem]
   repeat(with_reducible refine oA ?_)
   refine hK8 _ ?_
   refine oW T_szL_ok ?_
   simp only[go_sem]
   refine hL5 ⟨k+1,by omega⟩ _ (oK ?_) ?_
   ·
    simp (maxSteps:=2000000)only[go_sem]
    all_goals(first|rfl|exact wk (by omega)|((repeat' refine And.intro ?_ ?_)<;>first|rfl|exact wk (by omega)|exact hft (by omega)|(congr 1;exact hft (by omega))))
   ·
    first|(simp only[];omega)|omega|(simp;omega)
  intro c0
  refine AWP_exit ?_
  simp only[go_sem]
  refine hK3 _ ?_
  refine oS fun _ hK9=>?_
  refine oW T_szL_ok ?_
  simp only[go_sem]
  refine hK9 _ ?_
  refine AWP_ret ?_
  simp only[hres,go_sem]
  first|exact oF|(refine⟨?_,oF⟩;exact fillT_all (by omega))
def T_toI:Tab:=fun f=>if f=24 then some (.p K_toI) else T_szL f
theorem T_toI_ok:TabOk Try.prog T_toI:=tabP toI_ok (fnOk_of Try.func24 rfl (by decide)) T_szL_ok
attribute [go_sem] T_toI K_toI
def K_toL:Con:=⟨[.val ((.row 24 (.row 2 (.int .i64))))],[⟨(.row 24 (.row 2 (.int .i64))),true⟩],fun x=>fitsL x.1,fun x=>x.1⟩
theorem toL_ok:PureT Try.prog 8 K_toL:=by
  refine pure_of_body Try.func8 rfl ?_
  have hres:Try.f8.results.toList=[.tmp 2]:=rfl
  rintro⟨(xs:List (List Int)),_⟩ hc hL
  simp only[K_toL,go_sem] at hL
  simp only[K_toL,St.init,St.initG,Try.ntmps8,go_sem] 
  obtain⟨hx,hy⟩:=(show fitsL xs from hc)
  refine oS fun _ hK1=>?_
  refine oW T_toI_ok ?_
  simp only[go_sem]
  refine hK1 _ ?_
  refine oS fun _ hK2=>?_
  refine oW T_toI_ok ?_
  simp only[List.nodup_nil,go_sem]
  repeat(with_reducible refine oA ?_)
  refine hK2 _ ?_
  refine oS fun _ hK3=>?_
  refine oS fun _ hK4=>?_
  refine oW T_toI_ok ?_
  simp only[go_sem]
  refine hK4 _ ?_
  refine AWP_block ?_
  refine AWP_loop_k (ι:={ k:Nat // k≤xs.length }) (fun k=>⟨[.c (.rd [] 24 (.row 2 (.int .i64)) (xs)),zz,zz,.c (.ow 212),.c (.sc (.int .i64 (k.1))),zz,zz,zz,zz,zz,zz,zz,zz,zz,zz,zz,zz,zz,zz,zz,zz,zz,zz],[(212,.tree 24 (.row 2 (.int .i64)) (fillT ([]:List Int) xs k.1) none)]⟩) (fun k=>xs.length - k.1) ⟨0,by simp⟩ ?_ ?_
  ·
   refine oK ?_
   simp (maxSteps:=2000000)only[go_sem]
   all_goals(first|rfl|((repeat' refine And.intro ?_ ?_)<;>first|rfl|exact fillT_zero.symm|(rw[fillT_zero];simp)))
  rintro⟨k,hk⟩ K5 hL5
  have hfl:(fillT ([]:List Int) xs k).length=xs.length:=fillT_len hk
  have hft:k < xs.length→(fillT ([]:List Int) xs k).set k (xs.getD k ([]:List Int))=fillT ([]:List Int) xs (k+1):=fun h=>fillT_set _ h
  have hyk:k < xs.length→(xs.getD k []).length≤1099511627776:=fun h=>hy _ (getD_mem h)
  refine oS fun _ hK6=>?_
  refine oS fun _ hK7=>?_
  refine oW T_toI_ok ?_
  simp only[go_sem]
  refine hK7 _ ?_
  refine oC rfl ?_ ?_
  ·
   intro c0
   refine AWP_skip ?_
   simp only[go_sem]
   refine hK6 _ ?_
   refine oS fun _ hK8=>?_
   refine AWP_block ?_
   refine oW T_toI_ok ?_
   simp (maxSteps:=2000000)only[List.nodup_cons,List.nodup_nil,List.not_mem_nil,not_false_eq_true,go_sem]
   repeat(with_reducible first|refine oA ?_|refine And.intro (by first|exact hyk (by omega)) ?_)
   refine hK8 _ ?_
   refine oW T_toI_ok ?_
   simp only[go_sem]
   refine hL5 ⟨k+1,by omega⟩ _ (oK ?_) ?_
   ·
    simp (maxSteps:=2000000)only[go_sem]
    all_goals(first|rfl|exact wk (by omega)|((repeat' refine And.intro ?_ ?_)<;>first|rfl|exact wk (by omega)|exact hft (by omega)|(congr 1;exact hft (by omega))))
   ·
    first|(simp only[];omega)|omega|(simp;omega)
  intro c0
  refine AWP_exit ?_
  simp only[go_sem]
  refine hK3 _ ?_
  refine oS fun _ hK9=>?_
  refine oW T_toI_ok ?_
  simp only[go_sem]
  refine hK9 _ ?_
  refine AWP_ret ?_
  simp only[hres,go_sem]
  first|exact oF|(refine⟨?_,oF⟩;exact fillT_all (by omega))
def T_toL:Tab:=fun f=>if f=8 then some (.p K_toL) else T_toI f
theorem T_toL_ok:TabOk Try.prog T_toL:=tabP toL_ok (fnOk_of Try.func8 rfl (by decide)) T_toI_ok
attribute [go_sem] T_toL K_toL
def T_toP:Tab:=T_toL
theorem T_toP_ok:TabOk Try.prog T_toP:=T_toL_ok
attribute [go_sem] T_toP
end Go.Proofs.Ytenjbehedcegdaa
