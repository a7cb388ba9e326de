/-
  Texts of this claim, joined (part 26). No condition beyond those of the theorems.
-/
import Derived.Test.YthhogcknkimijaaDoorR10
import Derived.Test.YthhogcknkimijaaDoorR02
namespace Go.Proofs.YthhogcknkimijaaDoor
open Go.RowKit
set_option linter.unusedSimpArgs false
set_option linter.unusedVariables false
set_option maxRecDepth 100000
set_option maxHeartbeats 4000000
def K_eqSg:Con:=⟨[.val ((.prod (.int .i64) (.int .i64))),.val ((.prod (.int .i64) (.int .i64)))],[⟨.bool,true⟩],fun _=>True,fun x=>eqD (x.1:Int × Int) (x.2.1:Int × Int)⟩
theorem eqSg_ok:PureT Tryd.prog 53 K_eqSg:=by
  refine pure_of_body Tryd.func53 rfl ?_
  have hres:Tryd.f53.results.toList=[.tmp 4]:=rfl
  rintro⟨⟨(a1:Int),(b1:Int)⟩,⟨(a2:Int),(b2:Int)⟩,_⟩ hc hL
  simp only[K_eqSg,go_sem] at hL
  simp only[K_eqSg,St.init,St.initG,Tryd.ntmps53,go_sem] 
  refine oS fun _ hK1=>?_
  refine oW T0_ok ?_
  simp only[go_sem]
  refine hK1 _ ?_
  refine oS fun _ hK2=>?_
  refine oS fun _ hK3=>?_
  refine oW T0_ok ?_
  simp (maxSteps:=2000000)only[go_sem]
  repeat(with_reducible refine oA ?_)
  refine hK3 _ ?_
  refine oC rfl ?_ ?_
  ·
   intro c0
   refine oS fun _ hK4=>?_
   refine oW T0_ok ?_
   simp only[go_sem]
   refine hK4 _ ?_
   refine AWP_ret ?_
   simp only[hres,go_sem]
   first|exact oF|(refine⟨?_,oF⟩;clear hK1 hK2 hK3 hK4;simp_all [eqD])
  intro c0
  refine AWP_skip ?_
  simp only[go_sem]
  refine hK2 _ ?_
  refine oS fun _ hK5=>?_
  refine oS fun _ hK6=>?_
  refine oW T0_ok ?_
  simp (maxSteps:=2000000)only[go_sem]
  repeat(with_reducible refine oA ?_)
  refine hK6 _ ?_
  refine oC rfl ?_ ?_
  ·
   intro c1
   refine oS fun _ hK7=>?_
   refine oW T0_ok ?_
   simp only[go_sem]
   refine hK7 _ ?_
   refine AWP_ret ?_
   simp only[hres,go_sem]
   first|exact oF|(refine⟨?_,oF⟩;clear hK1 hK2 hK3 hK5 hK6 hK7;simp_all [eqD])
  intro c1
  refine AWP_skip ?_
  simp only[go_sem]
  refine hK5 _ ?_
  refine oS fun _ hK8=>?_
  refine oW T0_ok ?_
  simp only[go_sem]
  refine hK8 _ ?_
  refine AWP_ret ?_
  simp only[hres,go_sem]
  first|exact oF|(refine⟨?_,oF⟩;clear hK1 hK2 hK3 hK5 hK6 hK8;simp_all [eqD])
def T_eqSg:Tab:=fun f=>if f=53 then some (.p K_eqSg) else T0 f
theorem T_eqSg_ok:TabOk Tryd.prog T_eqSg:=tabP eqSg_ok (fnOk_of Tryd.func53 rfl (by decide)) T0_ok
attribute [go_sem] T_eqSg K_eqSg
def K_eqG:Con:=⟨[.val ((.row 48 (.prod (.int .i64) (.int .i64)))),.val ((.row 48 (.prod (.int .i64) (.int .i64))))],[⟨.bool,true⟩],fun _=>True,fun x=>eqD (x.1:List (Int × Int)) (x.2.1:List (Int × Int))⟩
theorem eqG_ok:PureT Tryd.prog 29 K_eqG:=by
  refine pure_of_body Tryd.func29 rfl ?_
  have hres:Tryd.f29.results.toList=[.tmp 4]:=rfl
  rintro⟨(xs:List (Int × Int)),(ys:List (Int × Int)),_⟩ hc hL
  simp only[K_eqG,go_sem] at hL
  obtain⟨lxs,lys⟩:=hL
  simp only[K_eqG,St.init,St.initG,Tryd.ntmps29,go_sem] 
  refine oS fun _ hK1=>?_
  refine oW T_eqSg_ok ?_
  simp only[go_sem]
  refine hK1 _ ?_
  refine oS fun _ hK2=>?_
  refine oS fun _ hK3=>?_
  refine oW T_eqSg_ok ?_
  simp (maxSteps:=2000000)only[go_sem]
  refine hK3 _ ?_
  refine oC rfl ?_ ?_
  ·
   intro c0
   refine oS fun _ hK4=>?_
   refine oW T_eqSg_ok ?_
   simp only[go_sem]
   refine hK4 _ ?_
   refine AWP_ret ?_
   simp only[hres,go_sem]
   first|exact oF|(refine⟨?_,oF⟩;exact(eq_len (by omega)).symm)
  intro c0
  refine AWP_skip ?_
  simp only[go_sem]
  refine hK2 _ ?_
  refine oS fun _ hK5=>?_
  refine oS fun _ hK6=>?_
  refine oW T_eqSg_ok ?_
  simp only[go_sem]
  refine hK6 _ ?_
  refine AWP_block ?_
  refine AWP_loop_k (ι:={ k:Nat // k≤xs.length∧xs.take k=ys.take k }) (fun k=>⟨[.c (.rd [] 48 ((.prod (.int .i64) (.int .i64))) (xs)),.c (.rd [] 48 ((.prod (.int .i64) (.int .i64))) (ys)),zz,zz,zz,.c (.sc (.int .i64 (k.1))),zz,zz,zz,zz,zz,zz,zz,zz,zz,zz,zz,zz,zz,zz,zz,zz,zz,zz,zz,zz,zz],[]⟩) (fun k=>xs.length - k.1) ⟨0,by simp,by simp⟩ ?_ ?_
  ·
   refine oK ?_
   simp (maxSteps:=2000000)only[go_sem]
   all_goals(first|rfl|((repeat' refine And.intro ?_ ?_)<;>first|rfl|simp))
  rintro⟨k,hk,hp⟩ K7 hL7
  refine oS fun _ hK8=>?_
  refine oS fun _ hK9=>?_
  refine oW T_eqSg_ok ?_
  simp only[go_sem]
  refine hK9 _ ?_
  refine oC rfl ?_ ?_
  ·
   intro c1
   refine AWP_skip ?_
   simp only[go_sem]
   refine hK8 _ ?_
   refine oS fun _ hK10=>?_
   refine AWP_block ?_
   refine oS fun _ hK11=>?_
   refine oR T_eqSg_ok
     [[],[],[0,1],[0,1,2],[],[],[4,5],[4,5,6],[0,1,2,3,4,5,6,7],[0,1,2,3,4,5,6,7,8]]
     [[],[],[],[],[],[],[],[],[],[]]
     [[],[],[],[],[],[],[],[],[],[]] (by kernel_rfl) (by kernel_rfl) (adrawR_ok (acc:=[]) ?_)
   simp (maxSteps:=2000000)only[go_sem]
   repeat(with_reducible refine oD ?_)
   refine hK11 _ ?_
   refine oC rfl ?_ ?_
   ·
    intro c2
    refine oS fun _ hK12=>?_
    refine oW T_eqSg_ok ?_
    simp only[go_sem]
    refine hK12 _ ?_
    refine AWP_ret ?_
    simp only[hres,go_sem]
    first|exact oF|(refine⟨?_,oF⟩;exact(eq_stop ((0,0):Int × Int) (m:=k) (by first|assumption|exact decide_eq_false (by assumption))).symm)
   intro c2
   refine AWP_skip ?_
   simp only[go_sem]
   refine hK10 _ ?_
   refine oW T_eqSg_ok ?_
   simp only[go_sem]
   refine hL7 ⟨k+1,by omega,eq_next (d:=((0,0):Int × Int)) (by omega) (by omega) hp (by first|assumption|exact decide_eq_true (by assumption))⟩ _ (oK ?_) ?_
   ·
    simp (maxSteps:=2000000)only[go_sem]
    all_goals(first|rfl|((repeat' refine And.intro ?_ ?_)<;>first|rfl|exact wk (by omega)|simp))
   ·
    first|(simp only[];omega)|omega|(simp;omega)
  intro c1
  refine AWP_exit ?_
  simp only[go_sem]
  refine hK5 _ ?_
  refine oS fun _ hK13=>?_
  refine oW T_eqSg_ok ?_
  simp only[go_sem]
  refine hK13 _ ?_
  refine AWP_ret ?_
  simp only[hres,go_sem]
  first|exact oF|(refine⟨?_,oF⟩;exact(eq_done (m:=k) (by omega) (by omega) hp).symm)
def T_eqG:Tab:=fun f=>if f=29 then some (.p K_eqG) else T_eqSg f
theorem T_eqG_ok:TabOk Tryd.prog T_eqG:=tabP eqG_ok (fnOk_of Tryd.func29 rfl (by decide)) T_eqSg_ok
attribute [go_sem] T_eqG K_eqG
def K_eqE:Con:=⟨[.val ((.prod (.int .i64) (.prod (.row 48 (.prod (.int .i64) (.int .i64))) (.int .i64)))),.val ((.prod (.int .i64) (.prod (.row 48 (.prod (.int .i64) (.int .i64))) (.int .i64))))],[⟨.bool,true⟩],fun _=>True,fun x=>eqD (x.1:EnvD) (x.2.1:EnvD)⟩
theorem eqE_ok:PureT Tryd.prog 10 K_eqE:=by
  refine pure_of_body Tryd.func10 rfl ?_
  have hres:Tryd.f10.results.toList=[.tmp 4]:=rfl
  rintro⟨⟨(st:Int),(sg:List (Int × Int)),(rl:Int)⟩,⟨(st2:Int),(sg2:List (Int × Int)),(rl2:Int)⟩,_⟩ hc hL
  simp only[K_eqE,go_sem] at hL
  simp only[K_eqE,St.init,St.initG,Tryd.ntmps10,go_sem] 
  refine oS fun _ hK1=>?_
  refine oW T_eqG_ok ?_
  simp only[go_sem]
  refine hK1 _ ?_
  refine oS fun _ hK2=>?_
  refine oS fun _ hK3=>?_
  refine oW T_eqG_ok ?_
  simp (maxSteps:=2000000)only[go_sem]
  repeat(with_reducible refine oA ?_)
  refine hK3 _ ?_
  refine oC rfl ?_ ?_
  ·
   intro c0
   refine oS fun _ hK4=>?_
   refine oW T_eqG_ok ?_
   simp only[go_sem]
   refine hK4 _ ?_
   refine AWP_ret ?_
   simp only[hres,go_sem]
   first|exact oF|(refine⟨?_,oF⟩;clear hK1 hK2 hK3 hK4;simp_all [eqD])
  intro c0
  refine AWP_skip ?_
  simp only[go_sem]
  refine hK2 _ ?_
  refine oS fun _ hK5=>?_
  refine oS fun _ hK6=>?_
  refine oW T_eqG_ok ?_
  simp (maxSteps:=2000000)only[go_sem]
  repeat(with_reducible refine oA ?_)
  refine hK6 _ ?_
  refine oC rfl ?_ ?_
  ·
   intro c1
   refine oS fun _ hK7=>?_
   refine oW T_eqG_ok ?_
   simp only[go_sem]
   refine hK7 _ ?_
   refine AWP_ret ?_
   simp only[hres,go_sem]
   first|exact oF|(refine⟨?_,oF⟩;clear hK1 hK2 hK3 hK5 hK6 hK7;simp_all [eqD])
  intro c1
  refine AWP_skip ?_
  simp only[go_sem]
  refine hK5 _ ?_
  refine oS fun _ hK8=>?_
  refine oS fun _ hK9=>?_
  refine oW T_eqG_ok ?_
  simp (maxSteps:=2000000)only[go_sem]
  repeat(with_reducible refine oA ?_)
  refine hK9 _ ?_
  refine oC rfl ?_ ?_
  ·
   intro c2
   refine oS fun _ hK10=>?_
   refine oW T_eqG_ok ?_
   simp only[go_sem]
   refine hK10 _ ?_
   refine AWP_ret ?_
   simp only[hres,go_sem]
   first|exact oF|(refine⟨?_,oF⟩;clear hK1 hK2 hK3 hK5 hK6 hK8 hK9 hK10;simp_all [eqD])
  intro c2
  refine AWP_skip ?_
  simp only[go_sem]
  refine hK8 _ ?_
  refine oS fun _ hK11=>?_
  refine oW T_eqG_ok ?_
  simp only[go_sem]
  refine hK11 _ ?_
  refine AWP_ret ?_
  simp only[hres,go_sem]
  first|exact oF|(refine⟨?_,oF⟩;clear hK1 hK2 hK3 hK5 hK6 hK8 hK9 hK11;simp_all [eqD])
def T_eqE:Tab:=fun f=>if f=10 then some (.p K_eqE) else T_eqG f
theorem T_eqE_ok:TabOk Tryd.prog T_eqE:=tabP eqE_ok (fnOk_of Tryd.func10 rfl (by decide)) T_eqG_ok
attribute [go_sem] T_eqE K_eqE
def K_markG:GCon where
  ps:=[.ow 0,.val (.int .i64)]
  os:=[.row 48 ((.prod (.int .i64) (.int .i64)))]
  c:=fun x=>mkOk x.1.2.1 (2 * x.2.1.length)
  r:=fun x=>.c (.sc (.int .i64 (x.1.2.1+((2 * x.2.1.length:Nat):Int))))
  o:=fun x=>[(30,.row 48 ((.prod (.int .i64) (.int .i64))) (markSg x.1.2.1 x.2.1) [])]
  ok:=by
    rintro⟨⟨_,(kk:Int),_⟩,⟨(xs:List (Int × Int)),_⟩⟩
    exact⟨rfl,rfl,by decide⟩
theorem markG_ok:GenT Tryd.prog 37 K_markG:=by
  refine gen_of_body Tryd.func37 rfl ?_
  have hres:Tryd.f37.results.toList=[.tmp 4]:=rfl
  rintro⟨⟨_,(kk:Int),_⟩,⟨(xs:List (Int × Int)),_⟩⟩ hc hL hO
  simp only[K_markG,go_sem] at hL
  simp only[K_markG,go_sem] at hO
  simp only[K_markG,St.init,St.initG,Tryd.ntmps37,go_sem] 
  obtain⟨h1,h2⟩:=(show mkOk kk (2 * xs.length) from hc)
  refine oS fun _ hK1=>?_
  refine oW T_eqE_ok ?_
  simp only[go_sem]
  refine hK1 _ ?_
  refine oS fun _ hK2=>?_
  refine oS fun _ hK3=>?_
  refine oW T_eqE_ok ?_
  simp only[go_sem]
  refine hK3 _ ?_
  refine AWP_block ?_
  refine AWP_loop_k (ι:={ k:Nat // k≤xs.length }) (fun k=>⟨[.c (.ow 30),.c (.sc (.int .i64 (kk+(cntA ctSg (xs.take k.1):Nat)))),zz,zz,zz,.c (.sc (.int .i64 (k.1))),zz,zz,zz,zz,zz,zz,zz,zz,zz,zz,zz,zz,zz,zz,zz,zz,zz,zz,zz,zz,zz],[(30,.row 48 ((.prod (.int .i64) (.int .i64))) (markT mkSg ctSg kk xs k.1) [])]⟩) (fun k=>xs.length - k.1) ⟨0,by simp⟩ ?_ ?_
  ·
   refine oK ?_
   simp (maxSteps:=2000000)only[go_sem]
   all_goals(first|rfl|((repeat' refine And.intro ?_ ?_)<;>first|rfl|exact markT_zero.symm|(simp[cntA];done)|(rw[markT_zero])))
  rintro⟨k,hk⟩ K4 hL4
  have hml:(markT mkSg ctSg kk xs k).length=xs.length:=markT_len hk
  have hma:k < xs.length→(markT mkSg ctSg kk xs k).getD k ((0,0):Int × Int)=xs.getD k ((0,0):Int × Int):=fun h=>markT_at _ h
  have hms:k < xs.length→(markT mkSg ctSg kk xs k).set k (mkSg (kk+(cntA ctSg (xs.take k):Nat)) (xs.getD k ((0,0):Int × Int)))=markT mkSg ctSg kk xs (k+1):=fun h=>markT_set _ h
  have hnx:k < xs.length→cntA ctSg (xs.take (k+1))=cntA ctSg (xs.take k)+2:=fun h=>cntA_next ((0,0):Int × Int) h
  have hle:cntA ctSg (xs.take (k+1))≤cntA ctSg xs:=cntA_take _
  have hci:cntA ctSg xs=2 * xs.length:=cntSg xs
  have gs:k < xs.length→∀x,((markT mkSg ctSg kk xs k).set k x).getD k ((0,0):Int × Int)=x:=fun h x=>getD_setk (by omega)
  have hw1:k < xs.length→IntKind.i64.wrap (kk+(cntA ctSg (xs.take k):Nat)+1)=kk+(cntA ctSg (xs.take k):Nat)+1:=fun h=>wrapI (by have:=hnx h;omega)
  have hw2:k < xs.length→IntKind.i64.wrap (kk+(cntA ctSg (xs.take k):Nat)+1+1)=kk+(cntA ctSg (xs.take k):Nat)+2:=fun h=>by rw[wrapI (by have:=hnx h;omega)];omega
  refine oS fun _ hK5=>?_
  refine oS fun _ hK6=>?_
  refine oW T_eqE_ok ?_
  simp only[go_sem]
  refine hK6 _ ?_
  refine oC rfl ?_ ?_
  ·
   intro c0
   refine AWP_skip ?_
   simp only[go_sem]
   refine hK5 _ ?_
   refine oS fun _ hK7=>?_
   refine AWP_block ?_
   refine oS fun _ hK8=>?_
   have hma':=hma (by omega)
   have hms':=hms (by omega)
   have hw1:=hw1 (by omega)
   have hw2:=hw2 (by omega)
   have hq:=hnx (by omega)
   have gs:=gs (by omega)
   refine oW T_eqE_ok ?_
   simp (maxSteps:=2000000)only[gs,List.set_set,hma',hml,List.length_set,hw1,hw2,go_sem]
   repeat(with_reducible refine oA ?_)
   refine hK8 _ ?_
   refine oS fun _ hK9=>?_
   refine oW T_eqE_ok ?_
   simp only[gs,List.set_set,hma',hml,List.length_set,hw1,hw2,go_sem]
   refine hK9 _ ?_
   refine oS fun _ hK10=>?_
   refine oW T_eqE_ok ?_
   simp (maxSteps:=2000000)only[gs,List.set_set,hma',hml,List.length_set,hw1,hw2,go_sem]
   repeat(with_reducible refine oA ?_)
   refine hK10 _ ?_
   refine oW T_eqE_ok ?_
   simp only[gs,List.set_set,hma',hml,List.length_set,hw1,hw2,go_sem]
   refine hK7 _ ?_
   refine oW T_eqE_ok ?_
   simp only[go_sem]
   refine hL4 ⟨k+1,by omega⟩ _ (oK ?_) ?_
   ·
    simp (maxSteps:=2000000)only[go_sem]
    all_goals(first|rfl|((repeat' refine And.intro ?_ ?_)<;>first|rfl|exact wk (by omega)|exact hms (by omega)|(congr 1;exact hms (by omega))|(congr 1;done)|omega))
   ·
    first|(simp only[];omega)|omega|(simp;omega)
  intro c0
  refine AWP_exit ?_
  simp only[go_sem]
  refine hK2 _ ?_
  refine oS fun _ hK11=>?_
  refine oW T_eqE_ok ?_
  simp only[go_sem]
  refine hK11 _ ?_
  refine AWP_ret ?_
  simp only[hres,go_sem]
  first
   | exact oG
   | refine ⟨oG, ?_⟩
     have hk3:cntA ctSg (xs.take k)=cntA ctSg xs:=by rw[List.take_of_length_le (l:=xs) (i:=k) (by omega)]
     (repeat' refine And.intro ?_ ?_)<;>first|rfl|exact markT_all (by omega)|(congr 1;exact markT_all (by omega))|(rw[hk3];rw[cntSg])|omega
def T_markG:Tab:=fun f=>if f=37 then some (.g K_markG) else T_eqE f
theorem T_markG_ok:TabOk Tryd.prog T_markG:=tabG markG_ok (fnOk_of Tryd.func37 rfl (by decide)) T_eqE_ok
attribute [go_sem] T_markG K_markG
def K_markE:GCon where
  ps:=[.ag [.rd (.int .i64),.ow 0,.rd (.int .i64)],.val (.int .i64)]
  os:=[.row 48 ((.prod (.int .i64) (.int .i64)))]
  c:=fun x=>mkOk x.1.2.1 (2 * x.2.1.length)
  r:=fun x=>.c (.sc (.int .i64 (x.1.2.1+((2 * x.2.1.length:Nat):Int))))
  o:=fun x=>[(30,.row 48 ((.prod (.int .i64) (.int .i64))) (markSg x.1.2.1 x.2.1) [])]
  ok:=by
    rintro⟨⟨⟨(st:Int),_,(rl:Int),_⟩,(kk:Int),_⟩,⟨(xs:List (Int × Int)),_⟩⟩
    exact⟨rfl,rfl,by decide⟩
theorem markE_ok:GenT Tryd.prog 13 K_markE:=by
  refine gen_of_body Tryd.func13 rfl ?_
  have hres:Tryd.f13.results.toList=[.tmp 4]:=rfl
  rintro⟨⟨⟨(st:Int),_,(rl:Int),_⟩,(kk:Int),_⟩,⟨(xs:List (Int × Int)),_⟩⟩ hc hL hO
  simp only[K_markE,go_sem] at hL
  simp only[K_markE,go_sem] at hO
  simp only[K_markE,St.init,St.initG,Tryd.ntmps13,go_sem] 
  have hmm:mkOk kk (2 * xs.length):=hc
  refine oS fun _ hK1=>?_
  refine oW T_markG_ok ?_
  simp only[go_sem]
  repeat(with_reducible first|refine oA ?_|refine And.intro (by first|exact hmm) ?_)
  refine hK1 _ ?_
  refine oS fun _ hK2=>?_
  refine oW T_markG_ok ?_
  simp (maxSteps:=2000000)only[go_sem]
  repeat(with_reducible first|refine oA ?_|refine And.intro (by first|exact hmm) ?_)
  refine hK2 _ ?_
  refine oS fun _ hK3=>?_
  refine oW T_markG_ok ?_
  simp only[go_sem]
  repeat(with_reducible first|refine oA ?_|refine And.intro (by first|exact hmm) ?_)
  refine hK3 _ ?_
  refine AWP_ret ?_
  simp only[hres,go_sem]
  first|exact oG|(refine⟨oG,?_⟩;(repeat' refine And.intro ?_ ?_)<;>first|rfl|(congr 1;done))
def T_markE:Tab:=fun f=>if f=13 then some (.g K_markE) else T_markG f
theorem T_markE_ok:TabOk Tryd.prog T_markE:=tabG markE_ok (fnOk_of Tryd.func13 rfl (by decide)) T_markG_ok
attribute [go_sem] T_markE K_markE
def K_heldG:Con:=⟨[.val ((.row 48 (.prod (.int .i64) (.int .i64)))),.val (.int .i64)],[⟨.int .i64,true⟩],fun x=>mkOk x.2.1 (2 * x.1.length),fun x=>heldA mkSg ctSg x.2.1 x.1⟩
theorem heldG_ok:PureT Tryd.prog 38 K_heldG:=by
  refine pure_of_body Tryd.func38 rfl ?_
  have hres:Tryd.f38.results.toList=[.tmp 4]:=rfl
  rintro⟨(xs:List (Int × Int)),(kk:Int),_⟩ hc hL
  simp only[K_heldG,go_sem] at hL
  obtain lxs:=hL
  simp only[K_heldG,St.init,St.initG,Tryd.ntmps38,go_sem] 
  obtain⟨h1,h2⟩:=(show mkOk kk (2 * xs.length) from hc)
  refine oS fun _ hK1=>?_
  refine oW T_markE_ok ?_
  simp only[go_sem]
  refine hK1 _ ?_
  refine oS fun _ hK2=>?_
  refine oS fun _ hK3=>?_
  refine oW T_markE_ok ?_
  simp only[go_sem]
  refine hK3 _ ?_
  refine AWP_block ?_
  refine AWP_loop_k (ι:={ k:Nat // k≤xs.length∧xs.take k=markA mkSg ctSg kk (xs.take k) }) (fun k=>⟨[.c (.rd [] 48 ((.prod (.int .i64) (.int .i64))) (xs)),.c (.sc (.int .i64 (kk+(cntA ctSg (xs.take k.1):Nat)))),zz,zz,zz,.c (.sc (.int .i64 (k.1))),zz,zz,zz,zz,zz,zz,zz,zz,zz,zz,zz,zz,zz,zz,zz,zz,zz,zz,zz,zz,zz,zz,zz,zz,zz],[]⟩) (fun k=>xs.length - k.1) ⟨0,by simp,by simp[markA]⟩ ?_ ?_
  ·
   refine oK ?_
   simp (maxSteps:=2000000)only[go_sem]
   all_goals(first|rfl|((repeat' refine And.intro ?_ ?_)<;>first|rfl|(simp[cntA];done)))
  rintro⟨k,hk,hp⟩ K4 hL4
  have hnx:k < xs.length→cntA ctSg (xs.take (k+1))=cntA ctSg (xs.take k)+2:=fun h=>cntA_next ((0,0):Int × Int) h
  have hle:cntA ctSg (xs.take (k+1))≤cntA ctSg xs:=cntA_take _
  have hci:cntA ctSg xs=2 * xs.length:=cntSg xs
  have hw1:k < xs.length→IntKind.i64.wrap (kk+(cntA ctSg (xs.take k):Nat)+1)=kk+(cntA ctSg (xs.take k):Nat)+1:=fun h=>wrapI (by have:=hnx h;omega)
  have hw2:k < xs.length→IntKind.i64.wrap (kk+(cntA ctSg (xs.take k):Nat)+1+1)=kk+(cntA ctSg (xs.take k):Nat)+2:=fun h=>by rw[wrapI (by have:=hnx h;omega)];omega
  refine oS fun _ hK5=>?_
  refine oS fun _ hK6=>?_
  refine oW T_markE_ok ?_
  simp only[go_sem]
  refine hK6 _ ?_
  refine oC rfl ?_ ?_
  ·
   intro c0
   refine AWP_skip ?_
   simp only[go_sem]
   refine hK5 _ ?_
   refine oS fun _ hK7=>?_
   refine AWP_block ?_
   refine oS fun _ hK8=>?_
   refine oS fun _ hK9=>?_
   have hw1:=hw1 (by omega)
   have hw2:=hw2 (by omega)
   have hq:=hnx (by omega)
   refine oW T_markE_ok ?_
   simp (maxSteps:=2000000)only[hw1,hw2,go_sem]
   repeat(with_reducible refine oA ?_)
   refine hK9 _ ?_
   refine oC rfl ?_ ?_
   ·
    intro c1
    refine oS fun _ hK10=>?_
    refine oW T_markE_ok ?_
    simp only[hw1,hw2,go_sem]
    refine hK10 _ ?_
    refine AWP_ret ?_
    simp only[hres,go_sem]
    first|exact oF|(refine⟨?_,oF⟩;exact(held_stop ((0,0):Int × Int) (m:=k) (by omega) (fun e=>c1 (congrArg (fun (z:Int × Int)=>z.1) e))).symm)
   intro c1
   refine AWP_skip ?_
   simp only[go_sem]
   refine hK8 _ ?_
   refine oS fun _ hK11=>?_
   refine oW T_markE_ok ?_
   simp only[hw1,hw2,go_sem]
   refine hK11 _ ?_
   refine oS fun _ hK12=>?_
   refine oS fun _ hK13=>?_
   refine oW T_markE_ok ?_
   simp (maxSteps:=2000000)only[hw1,hw2,go_sem]
   repeat(with_reducible refine oA ?_)
   refine hK13 _ ?_
   refine oC rfl ?_ ?_
   ·
    intro c2
    refine oS fun _ hK14=>?_
    refine oW T_markE_ok ?_
    simp only[hw1,hw2,go_sem]
    refine hK14 _ ?_
    refine AWP_ret ?_
    simp only[hres,go_sem]
    first|exact oF|(refine⟨?_,oF⟩;exact(held_stop ((0,0):Int × Int) (m:=k) (by omega) (fun e=>c2 (congrArg (fun (z:Int × Int)=>z.2) e))).symm)
   intro c2
   have hqq:(xs.getD k ((0,0):Int × Int))=mkSg (kk+(cntA ctSg (xs.take k):Nat)) (xs.getD k ((0,0):Int × Int)):=Prod.ext c1 c2
   refine AWP_skip ?_
   simp only[go_sem]
   refine hK12 _ ?_
   refine oW T_markE_ok ?_
   simp only[hw1,hw2,go_sem]
   refine hK7 _ ?_
   refine oW T_markE_ok ?_
   simp only[go_sem]
   refine hL4 ⟨k+1,by omega,held_next ((0,0):Int × Int) (by omega) hp hqq⟩ _ (oK ?_) ?_
   ·
    simp (maxSteps:=2000000)only[go_sem]
    all_goals(first|rfl|((repeat' refine And.intro ?_ ?_)<;>first|rfl|exact wk (by omega)|(congr 1;done)|omega))
   ·
    first|(simp only[];omega)|omega|(simp;omega)
  intro c0
  refine AWP_exit ?_
  simp only[go_sem]
  refine hK2 _ ?_
  refine oS fun _ hK15=>?_
  refine oW T_markE_ok ?_
  simp only[go_sem]
  refine hK15 _ ?_
  refine AWP_ret ?_
  simp only[hres,go_sem]
  first|exact oF|(refine⟨?_,oF⟩;rw[held_done (m:=k) (by omega) hp,List.take_of_length_le (by omega)])
def T_heldG:Tab:=fun f=>if f=38 then some (.p K_heldG) else T_markE f
theorem T_heldG_ok:TabOk Tryd.prog T_heldG:=tabP heldG_ok (fnOk_of Tryd.func38 rfl (by decide)) T_markE_ok
attribute [go_sem] T_heldG K_heldG
def K_heldE:Con:=⟨[.val ((.prod (.int .i64) (.prod (.row 48 (.prod (.int .i64) (.int .i64))) (.int .i64)))),.val (.int .i64)],[⟨.int .i64,true⟩],fun x=>mkOk x.2.1 (2 * x.1.2.1.length),fun x=>heldA mkSg ctSg x.2.1 x.1.2.1⟩
theorem heldE_ok:PureT Tryd.prog 14 K_heldE:=by
  refine pure_of_body Tryd.func14 rfl ?_
  have hres:Tryd.f14.results.toList=[.tmp 4]:=rfl
  rintro⟨⟨(st:Int),(sg:List (Int × Int)),(rl:Int)⟩,(kk:Int),_⟩ hc hL
  simp only[K_heldE,go_sem] at hL
  simp only[K_heldE,St.init,St.initG,Tryd.ntmps14,go_sem] 
  have hmm:mkOk kk (2 * sg.length):=hc
  obtain⟨hm1,hm2⟩:=hc
  refine oS fun _ hK1=>?_
  refine oW T_heldG_ok ?_
  simp only[go_sem]
  repeat(with_reducible first|refine oA ?_|refine And.intro (by first|exact hmm) ?_)
  refine hK1 _ ?_
  refine oS fun _ hK2=>?_
  refine oW T_heldG_ok ?_
  simp (maxSteps:=2000000)only[go_sem]
  repeat(with_reducible first|refine oA ?_|refine And.intro (by first|exact hmm) ?_)
  refine hK2 _ ?_
  refine oS fun _ hK3=>?_
  refine oS fun _ hK4=>?_
  refine oW T_heldG_ok ?_
  simp only[go_sem]
  repeat(with_reducible first|refine oA ?_|refine And.intro (by first|exact hmm) ?_)
  refine hK4 _ ?_
  refine oC rfl ?_ ?_
  ·
   intro c0
   obtain⟨e1,e2⟩:=heldA_neg (by omega) c0
   refine oS fun _ hK5=>?_
   refine oW T_heldG_ok ?_
   simp only[go_sem]
   repeat(with_reducible first|refine oA ?_|refine And.intro (by first|exact hmm) ?_)
   refine hK5 _ ?_
   refine AWP_ret ?_
   simp only[hres,go_sem]
   first|exact oF|(refine⟨?_,oF⟩;exact e1.symm)
  intro c0
  refine AWP_skip ?_
  simp only[go_sem]
  refine hK3 _ ?_
  refine oS fun _ hK6=>?_
  refine oW T_heldG_ok ?_
  simp only[go_sem]
  repeat(with_reducible first|refine oA ?_|refine And.intro (by first|exact hmm) ?_)
  refine hK6 _ ?_
  refine AWP_ret ?_
  simp only[hres,go_sem]
  first|exact oF|exact oFr
def T_heldE:Tab:=fun f=>if f=14 then some (.p K_heldE) else T_heldG f
theorem T_heldE_ok:TabOk Tryd.prog T_heldE:=tabP heldE_ok (fnOk_of Tryd.func14 rfl (by decide)) T_heldG_ok
attribute [go_sem] T_heldE K_heldE
end Go.Proofs.YthhogcknkimijaaDoor
