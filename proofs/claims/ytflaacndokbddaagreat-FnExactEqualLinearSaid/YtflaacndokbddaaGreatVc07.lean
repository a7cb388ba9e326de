/-
  Texts of this claim, joined (part 7). No condition beyond those of the theorems.
-/
import Derived.Test.YtflaacndokbddaaGreatVc05
import Derived.Test.YtflaacndokbddaaGreatVc06
namespace Go.Proofs.YtflaacndokbddaaGreat
open Go.RowKit
set_option linter.unusedSimpArgs false
set_option linter.unusedVariables false
set_option maxRecDepth 100000
set_option maxHeartbeats 1000000
def K_szI:Con:=⟨[.val ((.row 2 (.int .i64))),.val (.int .i64)],[⟨.int .i64,true⟩],fun x=>szOk x.2.1,fun x=>szR x.1.length x.2.1⟩
theorem szI_ok:PureT Tryz.prog 69 K_szI:=by
  refine pure_of_body Tryz.func69 rfl ?_
  have hres:Tryz.f69.results.toList=[.tmp 4]:=rfl
  rintro ⟨(xs:List Int),(lf:Int),_⟩ hc hL
  simp only[K_szI,go_sem] at hL
  obtain lxs:=hL
  simp only[K_szI,St.init,St.initG,Tryz.ntmps69,go_sem] 
  obtain ⟨h1,h2⟩:=(show szOk lf from hc)
  have hw:IntKind.i64.wrap (lf - (xs.length:Int))=lf - xs.length:=wrapI (by omega)
  refine oS fun _ hK1=>?_
  refine oW T_kinds_ok ?_
  simp only[go_sem]
  refine hK1 _ ?_
  refine oS fun _ hK2=>?_
  refine oW T_kinds_ok ?_
  simp (maxSteps:=2000000)only[hw,go_sem]
  refine hK2 _ ?_
  refine oS fun _ hK3=>?_
  refine oS fun _ hK4=>?_
  refine oW T_kinds_ok ?_
  simp only[go_sem]
  refine hK4 _ ?_
  refine oC rfl ?_ ?_
  ·
   intro c0
   refine oS fun _ hK5=>?_
   refine oW T_kinds_ok ?_
   simp only[go_sem]
   refine hK5 _ ?_
   refine AWP_ret ?_
   simp only[hres,go_sem]
   first | exact oF | (refine ⟨?_,oF⟩; exact (szR_t (by omega)).symm)
  intro c0
  refine AWP_skip ?_
  simp only[go_sem]
  refine hK3 _ ?_
  refine oS fun _ hK6=>?_
  refine oW T_kinds_ok ?_
  simp only[go_sem]
  refine hK6 _ ?_
  refine AWP_ret ?_
  simp only[hres,go_sem]
  first | exact oF | (refine ⟨?_,oF⟩; first | exact (szR_f (by omega)).symm | (rw [szR_f (by omega)]; omega))
def T_szI:Tab:=fun f=>if f=69 then some (.p K_szI) else T_kinds f
theorem T_szI_ok:TabOk Tryz.prog T_szI:=tabP szI_ok (fnOk_of Tryz.func69 rfl (by decide)) T_kinds_ok
attribute [go_sem] T_szI K_szI
def K_szL:Con:=⟨[.val ((.row 26 (.row 2 (.int .i64)))),.val (.int .i64)],[⟨.int .i64,true⟩],fun x=>szOk x.2.1,fun x=>szR (szL x.1) x.2.1⟩
theorem szL_ok:PureT Tryz.prog 67 K_szL:=by
  refine pure_of_body Tryz.func67 rfl ?_
  have hres:Tryz.f67.results.toList=[.tmp 4]:=rfl
  rintro ⟨(xs:List (List Int)),(lf:Int),_⟩ hc hL
  simp only[K_szL,go_sem] at hL
  obtain ⟨lxs,lxs2⟩:=hL
  simp only[K_szL,St.init,St.initG,Tryz.ntmps67,go_sem] 
  obtain ⟨h1,h2⟩:=(show szOk lf from hc)
  have hw:IntKind.i64.wrap (lf - (xs.length:Int))=lf - xs.length:=wrapI (by omega)
  have htot:szL xs=xs.length+cntA List.length xs:=rfl
  refine oS fun _ hK1=>?_
  refine oW T_szI_ok ?_
  simp only[go_sem]
  refine hK1 _ ?_
  refine oS fun _ hK2=>?_
  refine oW T_szI_ok ?_
  simp (maxSteps:=2000000)only[hw,go_sem]
  refine hK2 _ ?_
  refine oS fun _ hK3=>?_
  refine oS fun _ hK4=>?_
  refine oW T_szI_ok ?_
  simp only[go_sem]
  refine hK4 _ ?_
  refine oC rfl ?_ ?_
  ·
   intro c0
   refine oS fun _ hK5=>?_
   refine oW T_szI_ok ?_
   simp only[go_sem]
   refine hK5 _ ?_
   refine AWP_ret ?_
   simp only[hres,go_sem]
   first | exact oF | (refine ⟨?_,oF⟩; exact (szR_t (by omega)).symm)
  intro c0
  refine AWP_skip ?_
  simp only[go_sem]
  refine hK3 _ ?_
  refine oS fun _ hK6=>?_
  refine oS fun _ hK7=>?_
  refine oW T_szI_ok ?_
  simp only[go_sem]
  refine hK7 _ ?_
  refine AWP_block ?_
  refine AWP_loop_k (ι:={ k:Nat // k≤xs.length∧xs.length+cntA List.length (xs.take k)≤lf.toNat }) (fun k=>⟨[.c (.rd [] 26 (.row 2 (.int .i64)) (xs)),.c (.sc (.int .i64 (lf - xs.length - (cntA List.length (xs.take k.1):Nat)))),zz,zz,zz,.c (.sc (.int .i64 (k.1))),zz,zz,zz,zz,zz,zz,zz,zz,zz,zz,zz,zz,zz,zz,zz,zz,zz,zz,zz,zz,zz],[]⟩) (fun k=>xs.length - k.1) ⟨0,by simp,by simp [cntA]; omega⟩ ?_ ?_
  ·
   refine oK ?_
   simp (maxSteps:=2000000)only[go_sem]
   all_goals (first | rfl | (simp [cntA]; done) | ((repeat' refine And.intro ?_ ?_)<;>first | rfl | simp [cntA]))
  rintro ⟨k,hk,hp⟩ K8 hL8
  have hnx:k < xs.length→cntA List.length (xs.take (k+1))=cntA List.length (xs.take k)+List.length (xs.getD k ([]:List Int)):=fun h=>cntA_next _ h
  have hle:cntA List.length (xs.take (k+1))≤cntA List.length xs:=cntA_take _
  refine oS fun _ hK9=>?_
  refine oS fun _ hK10=>?_
  refine oW T_szI_ok ?_
  simp only[go_sem]
  refine hK10 _ ?_
  refine oC rfl ?_ ?_
  ·
   intro c1
   refine AWP_skip ?_
   simp only[go_sem]
   refine hK9 _ ?_
   refine oS fun _ hK11=>?_
   refine AWP_block ?_
   refine oS fun _ hK12=>?_
   refine oW T_szI_ok ?_
   simp (maxSteps:=2000000)only[go_sem]
   repeat (with_reducible first | refine oA ?_ | refine And.intro (by first | exact ⟨by omega,by omega⟩) ?_)
   refine hK12 _ ?_
   refine oS fun _ hK13=>?_
   refine oW T_szI_ok ?_
   simp only[go_sem]
   refine hK13 _ ?_
   refine oC rfl ?_ ?_
   ·
    intro c2
    have hq:=hnx (by omega)
    obtain ⟨e1,e2⟩:=szR_lt (by omega) c2
    refine oS fun _ hK14=>?_
    refine oW T_szI_ok ?_
    simp only[go_sem]
    refine hK14 _ ?_
    refine AWP_ret ?_
    simp only[hres,go_sem]
    first | exact oF | (refine ⟨?_,oF⟩; exact (szR_t (by omega)).symm)
   intro c2
   have hq:=hnx (by omega)
   obtain ⟨e1,e2⟩:=szR_ge' c2
   refine AWP_skip ?_
   simp only[go_sem]
   refine hK11 _ ?_
   refine oW T_szI_ok ?_
   simp only[go_sem]
   refine hL8 ⟨k+1,by omega,by omega⟩ _ (oK ?_) ?_
   ·
    simp (maxSteps:=2000000)only[go_sem]
    all_goals (first | rfl | ((repeat' refine And.intro ?_ ?_)<;>first | rfl | exact wk (by omega) | omega))
   ·
    first | (simp only[]; omega) | omega | (simp; omega)
  intro c1
  refine AWP_exit ?_
  simp only[go_sem]
  refine hK6 _ ?_
  refine oS fun _ hK15=>?_
  refine oW T_szI_ok ?_
  simp only[go_sem]
  refine hK15 _ ?_
  refine AWP_ret ?_
  simp only[hres,go_sem]
  first
   | exact oF
   | refine ⟨?_,oF⟩
     have hk3:cntA List.length (xs.take k)=cntA List.length xs:=by rw [List.take_of_length_le (by omega)]
     exact szR_f' (n:=szL xs) (l:=lf) (by omega) (by omega)
def T_szL:Tab:=fun f=>if f=67 then some (.p K_szL) else T_szI f
theorem T_szL_ok:TabOk Tryz.prog T_szL:=tabP szL_ok (fnOk_of Tryz.func67 rfl (by decide)) T_szI_ok
attribute [go_sem] T_szL K_szL
def K_szN:Con:=⟨[.val ((.prod (.int .i64) (.prod (.int .i64) (.prod (.int .i64) (.row 2 (.int .i64)))))),.val (.int .i64)],[⟨.int .i64,true⟩],fun x=>szOk x.2.1,fun x=>szR x.1.2.2.2.length x.2.1⟩
theorem szN_ok:PureT Tryz.prog 124 K_szN:=by
  refine pure_of_body Tryz.func124 rfl ?_
  have hres:Tryz.f124.results.toList=[.tmp 4]:=rfl
  rintro ⟨⟨(kd:Int),(a:Int),(bb:Int),(fr:List Int)⟩,(lf:Int),_⟩ hc hL
  simp only[K_szN,go_sem] at hL
  simp only[K_szN,St.init,St.initG,Tryz.ntmps124,go_sem] 
  obtain ⟨h1,h2⟩:=(show szOk lf from hc)
  refine oS fun _ hK1=>?_
  refine oW T_szL_ok ?_
  simp only[go_sem]
  repeat (with_reducible first | refine oA ?_ | refine And.intro (by first | exact ⟨by omega,by omega⟩) ?_)
  refine hK1 _ ?_
  refine oS fun _ hK2=>?_
  refine oW T_szL_ok ?_
  simp (maxSteps:=2000000)only[go_sem]
  repeat (with_reducible first | refine oA ?_ | refine And.intro (by first | exact ⟨by omega,by omega⟩) ?_)
  refine hK2 _ ?_
  refine oS fun _ hK3=>?_
  refine oS fun _ hK4=>?_
  refine oW T_szL_ok ?_
  simp only[go_sem]
  repeat (with_reducible first | refine oA ?_ | refine And.intro (by first | exact ⟨by omega,by omega⟩) ?_)
  refine hK4 _ ?_
  refine oC rfl ?_ ?_
  ·
   intro c0
   obtain ⟨e1,e2⟩:=szR_lt (by omega) c0
   refine oS fun _ hK5=>?_
   refine oW T_szL_ok ?_
   simp only[go_sem]
   repeat (with_reducible first | refine oA ?_ | refine And.intro (by first | exact ⟨by omega,by omega⟩) ?_)
   refine hK5 _ ?_
   refine AWP_ret ?_
   simp only[hres,go_sem]
   first | exact oF | (refine ⟨?_,oF⟩; exact e1.symm)
  intro c0
  refine AWP_skip ?_
  simp only[go_sem]
  refine hK3 _ ?_
  refine oS fun _ hK6=>?_
  refine oW T_szL_ok ?_
  simp only[go_sem]
  repeat (with_reducible first | refine oA ?_ | refine And.intro (by first | exact ⟨by omega,by omega⟩) ?_)
  refine hK6 _ ?_
  refine AWP_ret ?_
  simp only[hres,go_sem]
  first | exact oF | exact oFr
def T_szN:Tab:=fun f=>if f=124 then some (.p K_szN) else T_szL f
theorem T_szN_ok:TabOk Tryz.prog T_szN:=tabP szN_ok (fnOk_of Tryz.func124 rfl (by decide)) T_szL_ok
attribute [go_sem] T_szN K_szN
def K_szNs:Con:=⟨[.val ((.row 147 (.prod (.int .i64) (.prod (.int .i64) (.prod (.int .i64) (.row 2 (.int .i64))))))),.val (.int .i64)],[⟨.int .i64,true⟩],fun x=>szOk x.2.1,fun x=>szR (szNs x.1) x.2.1⟩
theorem szNs_ok:PureT Tryz.prog 68 K_szNs:=by
  refine pure_of_body Tryz.func68 rfl ?_
  have hres:Tryz.f68.results.toList=[.tmp 4]:=rfl
  rintro ⟨(xs:List NodeD),(lf:Int),_⟩ hc hL
  simp only[K_szNs,go_sem] at hL
  obtain ⟨lxs,lxs2⟩:=hL
  simp only[K_szNs,St.init,St.initG,Tryz.ntmps68,go_sem] 
  obtain ⟨h1,h2⟩:=(show szOk lf from hc)
  have hw:IntKind.i64.wrap (lf - (xs.length:Int))=lf - xs.length:=wrapI (by omega)
  have htot:szNs xs=xs.length+cntA fromLen xs:=rfl
  refine oS fun _ hK1=>?_
  refine oW T_szN_ok ?_
  simp only[go_sem]
  refine hK1 _ ?_
  refine oS fun _ hK2=>?_
  refine oW T_szN_ok ?_
  simp (maxSteps:=2000000)only[hw,go_sem]
  refine hK2 _ ?_
  refine oS fun _ hK3=>?_
  refine oS fun _ hK4=>?_
  refine oW T_szN_ok ?_
  simp only[go_sem]
  refine hK4 _ ?_
  refine oC rfl ?_ ?_
  ·
   intro c0
   refine oS fun _ hK5=>?_
   refine oW T_szN_ok ?_
   simp only[go_sem]
   refine hK5 _ ?_
   refine AWP_ret ?_
   simp only[hres,go_sem]
   first | exact oF | (refine ⟨?_,oF⟩; exact (szR_t (by omega)).symm)
  intro c0
  refine AWP_skip ?_
  simp only[go_sem]
  refine hK3 _ ?_
  refine oS fun _ hK6=>?_
  refine oS fun _ hK7=>?_
  refine oW T_szN_ok ?_
  simp only[go_sem]
  refine hK7 _ ?_
  refine AWP_block ?_
  refine AWP_loop_k (ι:={ k:Nat // k≤xs.length∧xs.length+cntA fromLen (xs.take k)≤lf.toNat }) (fun k=>⟨[.c (.rd [] 147 ((.prod (.int .i64) (.prod (.int .i64) (.prod (.int .i64) (.row 2 (.int .i64)))))) (xs)),.c (.sc (.int .i64 (lf - xs.length - (cntA fromLen (xs.take k.1):Nat)))),zz,zz,zz,.c (.sc (.int .i64 (k.1))),zz,zz,zz,zz,zz,zz,zz,zz,zz,zz,zz,zz,zz,zz,zz,zz,zz,zz,zz,zz,zz],[]⟩) (fun k=>xs.length - k.1) ⟨0,by simp,by simp [cntA]; omega⟩ ?_ ?_
  ·
   refine oK ?_
   simp (maxSteps:=2000000)only[go_sem]
   all_goals (first | rfl | (simp [cntA]; done) | ((repeat' refine And.intro ?_ ?_)<;>first | rfl | simp [cntA]))
  rintro ⟨k,hk,hp⟩ K8 hL8
  have hnx:k < xs.length→cntA fromLen (xs.take (k+1))=cntA fromLen (xs.take k)+fromLen (xs.getD k ((0,0,0,[]):NodeD)):=fun h=>cntA_next _ h
  have hle:cntA fromLen (xs.take (k+1))≤cntA fromLen xs:=cntA_take _
  have hfm:fromLen (xs.getD k ((0,0,0,[]):NodeD))=List.length (xs.getD k ((0,0,0,[]):NodeD)).2.2.2:=rfl
  refine oS fun _ hK9=>?_
  refine oS fun _ hK10=>?_
  refine oW T_szN_ok ?_
  simp only[go_sem]
  refine hK10 _ ?_
  refine oC rfl ?_ ?_
  ·
   intro c1
   refine AWP_skip ?_
   simp only[go_sem]
   refine hK9 _ ?_
   refine oS fun _ hK11=>?_
   refine AWP_block ?_
   refine oS fun _ hK12=>?_
   refine oW T_szN_ok ?_
   simp (maxSteps:=2000000)only[go_sem]
   repeat (with_reducible first | refine oA ?_ | refine And.intro (by first | exact ⟨by omega,by omega⟩) ?_)
   refine hK12 _ ?_
   refine oS fun _ hK13=>?_
   refine oW T_szN_ok ?_
   simp only[go_sem]
   refine hK13 _ ?_
   refine oC rfl ?_ ?_
   ·
    intro c2
    have hq:=hnx (by omega)
    obtain ⟨e1,e2⟩:=szR_lt (by omega) c2
    refine oS fun _ hK14=>?_
    refine oW T_szN_ok ?_
    simp only[go_sem]
    refine hK14 _ ?_
    refine AWP_ret ?_
    simp only[hres,go_sem]
    first | exact oF | (refine ⟨?_,oF⟩; exact (szR_t (by omega)).symm)
   intro c2
   have hq:=hnx (by omega)
   obtain ⟨e1,e2⟩:=szR_ge' c2
   refine AWP_skip ?_
   simp only[go_sem]
   refine hK11 _ ?_
   refine oW T_szN_ok ?_
   simp only[go_sem]
   refine hL8 ⟨k+1,by omega,by omega⟩ _ (oK ?_) ?_
   ·
    simp (maxSteps:=2000000)only[go_sem]
    all_goals (first | rfl | ((repeat' refine And.intro ?_ ?_)<;>first | rfl | exact wk (by omega) | omega))
   ·
    first | (simp only[]; omega) | omega | (simp; omega)
  intro c1
  refine AWP_exit ?_
  simp only[go_sem]
  refine hK6 _ ?_
  refine oS fun _ hK15=>?_
  refine oW T_szN_ok ?_
  simp only[go_sem]
  refine hK15 _ ?_
  refine AWP_ret ?_
  simp only[hres,go_sem]
  first
   | exact oF
   | refine ⟨?_,oF⟩
     have hk3:cntA fromLen (xs.take k)=cntA fromLen xs:=by rw [List.take_of_length_le (by omega)]
     exact szR_f' (n:=szNs xs) (l:=lf) (by omega) (by omega)
def T_szNs:Tab:=fun f=>if f=68 then some (.p K_szNs) else T_szN f
theorem T_szNs_ok:TabOk Tryz.prog T_szNs:=tabP szNs_ok (fnOk_of Tryz.func68 rfl (by decide)) T_szN_ok
attribute [go_sem] T_szNs K_szNs
def K_szP:Con:=⟨[.val ((.prod (.int .i64) (.prod (.row 26 (.row 2 (.int .i64))) (.prod (.row 147 (.prod (.int .i64) (.prod (.int .i64) (.prod (.int .i64) (.row 2 (.int .i64)))))) (.row 2 (.int .i64)))))),.val (.int .i64)],[⟨.int .i64,true⟩],fun x=>szOk x.2.1,fun x=>szR (szP x.1) x.2.1⟩
theorem szP_ok:PureT Tryz.prog 22 K_szP:=by
  refine pure_of_body Tryz.func22 rfl ?_
  have hres:Tryz.f22.results.toList=[.tmp 4]:=rfl
  rintro ⟨⟨(pi:Int),(ts:List (List Int)),(ns:List NodeD),(os:List Int)⟩,(lf:Int),_⟩ hc hL
  simp only[K_szP,go_sem] at hL
  simp only[K_szP,St.init,St.initG,Tryz.ntmps22,go_sem] 
  obtain ⟨h1,h2⟩:=(show szOk lf from hc)
  have htot:szP (pi,ts,ns,os)=szL ts+szNs ns+os.length:=rfl
  refine oS fun _ hK1=>?_
  refine oW T_szNs_ok ?_
  simp only[go_sem]
  repeat (with_reducible first | refine oA ?_ | refine And.intro (by first | exact ⟨by omega,by omega⟩) ?_)
  refine hK1 _ ?_
  refine oS fun _ hK2=>?_
  refine oW T_szNs_ok ?_
  simp (maxSteps:=2000000)only[go_sem]
  repeat (with_reducible first | refine oA ?_ | refine And.intro (by first | exact ⟨by omega,by omega⟩) ?_)
  refine hK2 _ ?_
  refine oS fun _ hK3=>?_
  refine oS fun _ hK4=>?_
  refine oW T_szNs_ok ?_
  simp only[go_sem]
  repeat (with_reducible first | refine oA ?_ | refine And.intro (by first | exact ⟨by omega,by omega⟩) ?_)
  refine hK4 _ ?_
  refine oC rfl ?_ ?_
  ·
   intro c0
   obtain ⟨e1,e2⟩:=szR_lt (by omega) c0
   refine oS fun _ hK5=>?_
   refine oW T_szNs_ok ?_
   simp only[go_sem]
   repeat (with_reducible first | refine oA ?_ | refine And.intro (by first | exact ⟨by omega,by omega⟩) ?_)
   refine hK5 _ ?_
   refine AWP_ret ?_
   simp only[hres,go_sem]
   first | exact oF | (refine ⟨?_,oF⟩; first | exact (szR_t (n:=szP (pi,ts,ns,os)) (l:=lf) (by omega)).symm | exact szR_f' (n:=szP (pi,ts,ns,os)) (l:=lf) (by omega) (by omega))
  intro c0
  obtain ⟨e1,e2⟩:=szR_ge' c0
  refine AWP_skip ?_
  simp only[go_sem]
  refine hK3 _ ?_
  refine oS fun _ hK6=>?_
  refine oW T_szNs_ok ?_
  simp (maxSteps:=2000000)only[go_sem]
  repeat (with_reducible first | refine oA ?_ | refine And.intro (by first | exact ⟨by omega,by omega⟩) ?_)
  refine hK6 _ ?_
  refine oS fun _ hK7=>?_
  refine oS fun _ hK8=>?_
  refine oW T_szNs_ok ?_
  simp only[go_sem]
  repeat (with_reducible first | refine oA ?_ | refine And.intro (by first | exact ⟨by omega,by omega⟩) ?_)
  refine hK8 _ ?_
  refine oC rfl ?_ ?_
  ·
   intro c1
   obtain ⟨e3,e4⟩:=szR_lt (by omega) c1
   refine oS fun _ hK9=>?_
   refine oW T_szNs_ok ?_
   simp only[go_sem]
   repeat (with_reducible first | refine oA ?_ | refine And.intro (by first | exact ⟨by omega,by omega⟩) ?_)
   refine hK9 _ ?_
   refine AWP_ret ?_
   simp only[hres,go_sem]
   first | exact oF | (refine ⟨?_,oF⟩; first | exact (szR_t (n:=szP (pi,ts,ns,os)) (l:=lf) (by omega)).symm | exact szR_f' (n:=szP (pi,ts,ns,os)) (l:=lf) (by omega) (by omega))
  intro c1
  obtain ⟨e3,e4⟩:=szR_ge' c1
  refine AWP_skip ?_
  simp only[go_sem]
  refine hK7 _ ?_
  refine oS fun _ hK10=>?_
  refine oW T_szNs_ok ?_
  simp (maxSteps:=2000000)only[go_sem]
  repeat (with_reducible first | refine oA ?_ | refine And.intro (by first | exact ⟨by omega,by omega⟩) ?_)
  refine hK10 _ ?_
  refine oS fun _ hK11=>?_
  refine oS fun _ hK12=>?_
  refine oW T_szNs_ok ?_
  simp only[go_sem]
  repeat (with_reducible first | refine oA ?_ | refine And.intro (by first | exact ⟨by omega,by omega⟩) ?_)
  refine hK12 _ ?_
  refine oC rfl ?_ ?_
  ·
   intro c2
   obtain ⟨e5,e6⟩:=szR_lt (by omega) c2
   refine oS fun _ hK13=>?_
   refine oW T_szNs_ok ?_
   simp only[go_sem]
   repeat (with_reducible first | refine oA ?_ | refine And.intro (by first | exact ⟨by omega,by omega⟩) ?_)
   refine hK13 _ ?_
   refine AWP_ret ?_
   simp only[hres,go_sem]
   first | exact oF | (refine ⟨?_,oF⟩; first | exact (szR_t (n:=szP (pi,ts,ns,os)) (l:=lf) (by omega)).symm | exact szR_f' (n:=szP (pi,ts,ns,os)) (l:=lf) (by omega) (by omega))
  intro c2
  obtain ⟨e5,e6⟩:=szR_ge' c2
  refine AWP_skip ?_
  simp only[go_sem]
  refine hK11 _ ?_
  refine oS fun _ hK14=>?_
  refine oW T_szNs_ok ?_
  simp only[go_sem]
  repeat (with_reducible first | refine oA ?_ | refine And.intro (by first | exact ⟨by omega,by omega⟩) ?_)
  refine hK14 _ ?_
  refine AWP_ret ?_
  simp only[hres,go_sem]
  first | exact oF | (refine ⟨?_,oF⟩; first | exact (szR_t (n:=szP (pi,ts,ns,os)) (l:=lf) (by omega)).symm | exact szR_f' (n:=szP (pi,ts,ns,os)) (l:=lf) (by omega) (by omega))
def T_szP:Tab:=fun f=>if f=22 then some (.p K_szP) else T_szNs f
theorem T_szP_ok:TabOk Tryz.prog T_szP:=tabP szP_ok (fnOk_of Tryz.func22 rfl (by decide)) T_szNs_ok
attribute [go_sem] T_szP K_szP
def K_toI:Con:=⟨[.val ((.row 2 (.int .i64)))],[⟨(.row 2 (.int .i64)),true⟩],fun x=>x.1.length≤1099511627776,fun x=>x.1⟩
theorem toI_ok:PureT Tryz.prog 73 K_toI:=by
  refine pure_of_body Tryz.func73 rfl ?_
  have hres:Tryz.f73.results.toList=[.tmp 2]:=rfl
  rintro ⟨(xs:List Int),_⟩ hc hL
  simp only[K_toI,go_sem] at hL
  simp only[K_toI,St.init,St.initG,Tryz.ntmps73,go_sem] 
  have hx:xs.length≤1099511627776:=hc
  refine oS fun _ hK1=>?_
  refine oW T_szP_ok ?_
  simp only[go_sem]
  refine hK1 _ ?_
  refine oS fun _ hK2=>?_
  refine oW T_szP_ok ?_
  simp only[List.nodup_nil,go_sem]
  repeat (with_reducible refine oA ?_)
  refine hK2 _ ?_
  refine oS fun _ hK3=>?_
  refine oS fun _ hK4=>?_
  refine oW T_szP_ok ?_
  simp only[go_sem]
  refine hK4 _ ?_
  refine AWP_block ?_
  refine AWP_loop_k (ι:={ k:Nat // k≤xs.length }) (fun k=>⟨[.c (.rd [] 2 (.int .i64) (xs)),zz,zz,.c (.ow 212),.c (.sc (.int .i64 (k.1))),zz,zz,zz,zz,zz,zz,zz,zz,zz,zz,zz,zz,zz,zz,zz,zz,zz],[(212,.row 2 (.int .i64) (fillT (0:Int) xs k.1) [])]⟩) (fun k=>xs.length - k.1) ⟨0,by simp⟩ ?_ ?_
  ·
   refine oK ?_
   simp (maxSteps:=2000000)only[go_sem]
   all_goals (first | rfl | ((repeat' refine And.intro ?_ ?_)<;>first | rfl | exact fillT_zero.symm | (rw [fillT_zero]; simp)))
  rintro ⟨k,hk⟩ K5 hL5
  have hfl:(fillT (0:Int) xs k).length=xs.length:=fillT_len hk
  have hft:k < xs.length→(fillT (0:Int) xs k).set k (xs.getD k (0:Int))=fillT (0:Int) xs (k+1):=fun h=>fillT_set _ h
  refine oS fun _ hK6=>?_
  refine oS fun _ hK7=>?_
  refine oW T_szP_ok ?_
  simp only[go_sem]
  refine hK7 _ ?_
  refine oC rfl ?_ ?_
  ·
   intro c0
   refine AWP_skip ?_
   simp only[go_sem]
   refine hK6 _ ?_
   refine oS fun _ hK8=>?_
   refine AWP_block ?_
   refine oW T_szP_ok ?_
   simp (maxSteps:=2000000)only[go_sem]
   repeat (with_reducible refine oA ?_)
   refine hK8 _ ?_
   refine oW T_szP_ok ?_
   simp only[go_sem]
   refine hL5 ⟨k+1,by omega⟩ _ (oK ?_) ?_
   ·
    simp (maxSteps:=2000000)only[go_sem]
    all_goals (first | rfl | exact wk (by omega) | ((repeat' refine And.intro ?_ ?_)<;>first | rfl | exact wk (by omega) | exact hft (by omega) | (congr 1; exact hft (by omega))))
   ·
    first | (simp only[]; omega) | omega | (simp; omega)
  intro c0
  refine AWP_exit ?_
  simp only[go_sem]
  refine hK3 _ ?_
  refine oS fun _ hK9=>?_
  refine oW T_szP_ok ?_
  simp only[go_sem]
  refine hK9 _ ?_
  refine AWP_ret ?_
  simp only[hres,go_sem]
  first | exact oF | (refine ⟨?_,oF⟩; exact fillT_all (by omega))
def T_toI:Tab:=fun f=>if f=73 then some (.p K_toI) else T_szP f
theorem T_toI_ok:TabOk Tryz.prog T_toI:=tabP toI_ok (fnOk_of Tryz.func73 rfl (by decide)) T_szP_ok
attribute [go_sem] T_toI K_toI
def K_toL:Con:=⟨[.val ((.row 26 (.row 2 (.int .i64))))],[⟨(.row 26 (.row 2 (.int .i64))),true⟩],fun x=>fitsL x.1,fun x=>x.1⟩
theorem toL_ok:PureT Tryz.prog 71 K_toL:=by
  refine pure_of_body Tryz.func71 rfl ?_
  have hres:Tryz.f71.results.toList=[.tmp 2]:=rfl
  rintro ⟨(xs:List (List Int)),_⟩ hc hL
  simp only[K_toL,go_sem] at hL
  simp only[K_toL,St.init,St.initG,Tryz.ntmps71,go_sem] 
  obtain ⟨hx,hy⟩:=(show fitsL xs from hc)
  refine oS fun _ hK1=>?_
  refine oW T_toI_ok ?_
  simp only[go_sem]
  refine hK1 _ ?_
  refine oS fun _ hK2=>?_
  refine oW T_toI_ok ?_
  simp only[List.nodup_nil,go_sem]
  repeat (with_reducible refine oA ?_)
  refine hK2 _ ?_
  refine oS fun _ hK3=>?_
  refine oS fun _ hK4=>?_
  refine oW T_toI_ok ?_
  simp only[go_sem]
  refine hK4 _ ?_
  refine AWP_block ?_
  refine AWP_loop_k (ι:={ k:Nat // k≤xs.length }) (fun k=>⟨[.c (.rd [] 26 (.row 2 (.int .i64)) (xs)),zz,zz,.c (.ow 212),.c (.sc (.int .i64 (k.1))),zz,zz,zz,zz,zz,zz,zz,zz,zz,zz,zz,zz,zz,zz,zz,zz,zz,zz],[(212,.tree 26 (.row 2 (.int .i64)) (fillT ([]:List Int) xs k.1) none)]⟩) (fun k=>xs.length - k.1) ⟨0,by simp⟩ ?_ ?_
  ·
   refine oK ?_
   simp (maxSteps:=2000000)only[go_sem]
   all_goals (first | rfl | ((repeat' refine And.intro ?_ ?_)<;>first | rfl | exact fillT_zero.symm | (rw [fillT_zero]; simp)))
  rintro ⟨k,hk⟩ K5 hL5
  have hfl:(fillT ([]:List Int) xs k).length=xs.length:=fillT_len hk
  have hft:k < xs.length→(fillT ([]:List Int) xs k).set k (xs.getD k ([]:List Int))=fillT ([]:List Int) xs (k+1):=fun h=>fillT_set _ h
  have hyk:k < xs.length→(xs.getD k []).length≤1099511627776:=fun h=>hy _ (getD_mem h)
  refine oS fun _ hK6=>?_
  refine oS fun _ hK7=>?_
  refine oW T_toI_ok ?_
  simp only[go_sem]
  refine hK7 _ ?_
  refine oC rfl ?_ ?_
  ·
   intro c0
   refine AWP_skip ?_
   simp only[go_sem]
   refine hK6 _ ?_
   refine oS fun _ hK8=>?_
   refine AWP_block ?_
   refine oW T_toI_ok ?_
   simp (maxSteps:=2000000)only[List.nodup_cons,List.nodup_nil,List.not_mem_nil,not_false_eq_true,go_sem]
   repeat (with_reducible first | refine oA ?_ | refine And.intro (by first | exact hyk (by omega)) ?_)
   refine hK8 _ ?_
   refine oW T_toI_ok ?_
   simp only[go_sem]
   refine hL5 ⟨k+1,by omega⟩ _ (oK ?_) ?_
   ·
    simp (maxSteps:=2000000)only[go_sem]
    all_goals (first | rfl | exact wk (by omega) | ((repeat' refine And.intro ?_ ?_)<;>first | rfl | exact wk (by omega) | exact hft (by omega) | (congr 1; exact hft (by omega))))
   ·
    first | (simp only[]; omega) | omega | (simp; omega)
  intro c0
  refine AWP_exit ?_
  simp only[go_sem]
  refine hK3 _ ?_
  refine oS fun _ hK9=>?_
  refine oW T_toI_ok ?_
  simp only[go_sem]
  refine hK9 _ ?_
  refine AWP_ret ?_
  simp only[hres,go_sem]
  first | exact oF | (refine ⟨?_,oF⟩; exact fillT_all (by omega))
def T_toL:Tab:=fun f=>if f=71 then some (.p K_toL) else T_toI f
theorem T_toL_ok:TabOk Tryz.prog T_toL:=tabP toL_ok (fnOk_of Tryz.func71 rfl (by decide)) T_toI_ok
attribute [go_sem] T_toL K_toL
def K_toN:Con:=⟨[.val ((.prod (.int .i64) (.prod (.int .i64) (.prod (.int .i64) (.row 2 (.int .i64))))))],[⟨(.prod (.int .i64) (.prod (.int .i64) (.prod (.int .i64) (.row 2 (.int .i64))))),true⟩],fun x=>x.1.2.2.2.length≤1099511627776,fun x=>x.1⟩
theorem toN_ok:PureT Tryz.prog 129 K_toN:=by
  refine pure_of_body Tryz.func129 rfl ?_
  have hres:Tryz.f129.results.toList=[.cell 2 90]:=rfl
  rintro ⟨⟨(kd:Int),(a:Int),(bb:Int),(fr:List Int)⟩,_⟩ hc hL
  simp only[K_toN,go_sem] at hL
  simp only[K_toN,St.init,St.initG,Tryz.ntmps129,go_sem] 
  have hx:fr.length≤1099511627776:=hc
  refine oS fun _ hK1=>?_
  refine oW T_toL_ok ?_
  simp only[go_sem]
  refine hK1 _ ?_
  refine oS fun _ hK2=>?_
  refine oW T_toL_ok ?_
  simp only[go_sem]
  refine hK2 _ ?_
  refine oS fun _ hK3=>?_
  refine oW T_toL_ok ?_
  simp only[go_sem]
  repeat (with_reducible refine oA ?_)
  refine hK3 _ ?_
  refine oS fun _ hK4=>?_
  refine oW T_toL_ok ?_
  simp only[go_sem]
  repeat (with_reducible refine oA ?_)
  refine hK4 _ ?_
  refine oS fun _ hK5=>?_
  refine oW T_toL_ok ?_
  simp only[go_sem]
  repeat (with_reducible refine oA ?_)
  refine hK5 _ ?_
  refine oS fun _ hK6=>?_
  refine oW T_toL_ok ?_
  simp (maxSteps:=2000000)only[go_sem]
  repeat (with_reducible refine oA ?_)
  refine hK6 _ ?_
  refine oS fun _ hK7=>?_
  refine oW T_toL_ok ?_
  simp only[go_sem]
  repeat (with_reducible refine oA ?_)
  refine hK7 _ ?_
  refine AWP_ret ?_
  simp only[hres,go_sem]
  first | exact oF | exact oFr
def T_toN:Tab:=fun f=>if f=129 then some (.p K_toN) else T_toL f
theorem T_toN_ok:TabOk Tryz.prog T_toN:=tabP toN_ok (fnOk_of Tryz.func129 rfl (by decide)) T_toL_ok
attribute [go_sem] T_toN K_toN
def K_toNs:Con:=⟨[.val ((.row 147 (.prod (.int .i64) (.prod (.int .i64) (.prod (.int .i64) (.row 2 (.int .i64)))))))],[⟨(.row 90 (.prod (.int .i64) (.prod (.int .i64) (.prod (.int .i64) (.row 2 (.int .i64)))))),true⟩],fun x=>fitsN x.1,fun x=>x.1⟩
theorem toNs_ok:PureT Tryz.prog 72 K_toNs:=by
  refine pure_of_body Tryz.func72 rfl ?_
  have hres:Tryz.f72.results.toList=[.tmp 2]:=rfl
  rintro ⟨(xs:List NodeD),_⟩ hc hL
  simp only[K_toNs,go_sem] at hL
  simp only[K_toNs,St.init,St.initG,Tryz.ntmps72,go_sem] 
  obtain ⟨hx,hy⟩:=(show fitsN xs from hc)
  refine oS fun _ hK1=>?_
  refine oW T_toN_ok ?_
  simp only[go_sem]
  refine hK1 _ ?_
  refine oS fun _ hK2=>?_
  refine oW T_toN_ok ?_
  simp only[List.nodup_nil,go_sem]
  repeat (with_reducible refine oA ?_)
  refine hK2 _ ?_
  refine oS fun _ hK3=>?_
  refine oS fun _ hK4=>?_
  refine oW T_toN_ok ?_
  simp only[go_sem]
  refine hK4 _ ?_
  refine AWP_block ?_
  refine AWP_loop_k (ι:={ k:Nat // k≤xs.length }) (fun k=>⟨[.c (.rd [] 147 ((.prod (.int .i64) (.prod (.int .i64) (.prod (.int .i64) (.row 2 (.int .i64)))))) (xs)),zz,zz,.c (.ow 212),.c (.sc (.int .i64 (k.1))),zz,zz,zz,zz,zz,zz,zz,zz,zz,zz,zz,zz,zz,zz,zz,zz,zz,zz],[(212,.tree 90 (.prod (.int .i64) (.prod (.int .i64) (.prod (.int .i64) (.row 2 (.int .i64))))) (fillT ((0,0,0,[]):NodeD) xs k.1) none)]⟩) (fun k=>xs.length - k.1) ⟨0,by simp⟩ ?_ ?_
  ·
   refine oK ?_
   simp (maxSteps:=2000000)only[go_sem]
   all_goals (first | rfl | ((repeat' refine And.intro ?_ ?_)<;>first | rfl | exact fillT_zero.symm | (rw [fillT_zero]; simp)))
  rintro ⟨k,hk⟩ K5 hL5
  have hfl:(fillT ((0,0,0,[]):NodeD) xs k).length=xs.length:=fillT_len hk
  have hft:k < xs.length→(fillT ((0,0,0,[]):NodeD) xs k).set k (xs.getD k ((0,0,0,[]):NodeD))=fillT ((0,0,0,[]):NodeD) xs (k+1):=fun h=>fillT_set _ h
  have hyk:k < xs.length→(xs.getD k ((0,0,0,[]):NodeD)).2.2.2.length≤1099511627776:=fun h=>hy _ (getD_mem h)
  refine oS fun _ hK6=>?_
  refine oS fun _ hK7=>?_
  refine oW T_toN_ok ?_
  simp only[go_sem]
  refine hK7 _ ?_
  refine oC rfl ?_ ?_
  ·
   intro c0
   refine AWP_skip ?_
   simp only[go_sem]
   refine hK6 _ ?_
   refine oS fun _ hK8=>?_
   refine AWP_block ?_
   refine oW T_toN_ok ?_
   simp (maxSteps:=2000000)only[List.nodup_cons,List.nodup_nil,List.not_mem_nil,not_false_eq_true,go_sem]
   repeat (with_reducible first | refine oA ?_ | refine And.intro (by first | exact hyk (by omega)) ?_)
   refine hK8 _ ?_
   refine oW T_toN_ok ?_
   simp only[go_sem]
   refine hL5 ⟨k+1,by omega⟩ _ (oK ?_) ?_
   ·
    simp (maxSteps:=2000000)only[go_sem]
    all_goals (first | rfl | exact wk (by omega) | ((repeat' refine And.intro ?_ ?_)<;>first | rfl | exact wk (by omega) | exact hft (by omega) | (congr 1; exact hft (by omega))))
   ·
    first | (simp only[]; omega) | omega | (simp; omega)
  intro c0
  refine AWP_exit ?_
  simp only[go_sem]
  refine hK3 _ ?_
  refine oS fun _ hK9=>?_
  refine oW T_toN_ok ?_
  simp only[go_sem]
  refine hK9 _ ?_
  refine AWP_ret ?_
  simp only[hres,go_sem]
  first | exact oF | (refine ⟨?_,oF⟩; exact fillT_all (by omega))
def T_toNs:Tab:=fun f=>if f=72 then some (.p K_toNs) else T_toN f
theorem T_toNs_ok:TabOk Tryz.prog T_toNs:=tabP toNs_ok (fnOk_of Tryz.func72 rfl (by decide)) T_toN_ok
attribute [go_sem] T_toNs K_toNs
def K_toP:Con:=⟨[.val ((.prod (.int .i64) (.prod (.row 26 (.row 2 (.int .i64))) (.prod (.row 147 (.prod (.int .i64) (.prod (.int .i64) (.prod (.int .i64) (.row 2 (.int .i64)))))) (.row 2 (.int .i64))))))],[⟨(.prod (.int .i64) (.prod (.row 26 (.row 2 (.int .i64))) (.prod (.row 90 (.prod (.int .i64) (.prod (.int .i64) (.prod (.int .i64) (.row 2 (.int .i64)))))) (.row 2 (.int .i64))))),true⟩],fun x=>fitsP x.1,fun x=>x.1⟩
theorem toP_ok:PureT Tryz.prog 24 K_toP:=by
  refine pure_of_body Tryz.func24 rfl ?_
  have hres:Tryz.f24.results.toList=[.cell 2 28]:=rfl
  rintro ⟨⟨(pi:Int),(ts:List (List Int)),(ns:List NodeD),(os:List Int)⟩,_⟩ hc hL
  simp only[K_toP,go_sem] at hL
  simp only[K_toP,St.init,St.initG,Tryz.ntmps24,go_sem] 
  obtain ⟨hx,hy,hz⟩:=(show fitsP (pi,ts,ns,os) from hc)
  refine oS fun _ hK1=>?_
  refine oW T_toNs_ok ?_
  simp only[go_sem]
  repeat (with_reducible first | refine oA ?_ | refine And.intro (by first | assumption) ?_)
  refine hK1 _ ?_
  refine oS fun _ hK2=>?_
  refine oW T_toNs_ok ?_
  simp only[go_sem]
  repeat (with_reducible first | refine oA ?_ | refine And.intro (by first | assumption) ?_)
  refine hK2 _ ?_
  refine oS fun _ hK3=>?_
  refine oW T_toNs_ok ?_
  simp only[go_sem]
  repeat (with_reducible first | refine oA ?_ | refine And.intro (by first | assumption) ?_)
  refine hK3 _ ?_
  refine oS fun _ hK4=>?_
  refine oW T_toNs_ok ?_
  simp (maxSteps:=2000000)only[go_sem]
  repeat (with_reducible first | refine oA ?_ | refine And.intro (by first | assumption) ?_)
  refine hK4 _ ?_
  refine oS fun _ hK5=>?_
  refine oW T_toNs_ok ?_
  simp (maxSteps:=2000000)only[go_sem]
  repeat (with_reducible first | refine oA ?_ | refine And.intro (by first | assumption) ?_)
  refine hK5 _ ?_
  refine oS fun _ hK6=>?_
  refine oW T_toNs_ok ?_
  simp (maxSteps:=2000000)only[go_sem]
  repeat (with_reducible first | refine oA ?_ | refine And.intro (by first | assumption) ?_)
  refine hK6 _ ?_
  refine oS fun _ hK7=>?_
  refine oW T_toNs_ok ?_
  simp only[go_sem]
  repeat (with_reducible first | refine oA ?_ | refine And.intro (by first | assumption) ?_)
  refine hK7 _ ?_
  refine AWP_ret ?_
  simp only[hres,go_sem]
  first | exact oF | exact oFr
def T_toP:Tab:=fun f=>if f=24 then some (.p K_toP) else T_toNs f
theorem T_toP_ok:TabOk Tryz.prog T_toP:=tabP toP_ok (fnOk_of Tryz.func24 rfl (by decide)) T_toNs_ok
attribute [go_sem] T_toP K_toP
end Go.Proofs.YtflaacndokbddaaGreat
