/-
  Texts of this claim, joined (part 26). No condition beyond those of the theorems.
-/
import Derived.Test.YtenjbehedcegdaaR06
import Derived.Test.YtenjbehedcegdaaR05
namespace Go.Proofs.Ytenjbehedcegdaa
open Go.RowKit
set_option linter.unusedSimpArgs false
set_option linter.unusedVariables false
set_option maxRecDepth 100000
set_option maxHeartbeats 1000000
def K_l06Kind:Con:=⟨[.val (.int .i64)],[⟨.bool,true⟩],fun _=>True,fun x=>inR x.1 1 17⟩
theorem l06Kind_ok:PureT Try.prog 81 K_l06Kind:=by
  refine pure_of_body Try.func81 rfl ?_
  have hres:Try.f81.results.toList=[.tmp 2]:=rfl
  rintro⟨(x:Int),_⟩ hc hL
  simp only[K_l06Kind,go_sem] at hL
  simp only[K_l06Kind,St.init,St.initG,Try.ntmps81,go_sem] 
  refine oS fun _ hK1=>?_
  refine oW T_kinds_ok ?_
  simp only[go_sem]
  refine hK1 _ ?_
  refine oS fun _ hK2=>?_
  refine oW T_kinds_ok ?_
  simp only[go_sem]
  repeat(with_reducible refine oA ?_)
  refine hK2 _ ?_
  refine AWP_ret ?_
  simp only[hres,go_sem]
  first|exact oF|exact oFr
def T_l06Kind:Tab:=fun f=>if f=81 then some (.p K_l06Kind) else T_kinds f
theorem T_l06Kind_ok:TabOk Try.prog T_l06Kind:=tabP l06Kind_ok (fnOk_of Try.func81 rfl (by decide)) T_kinds_ok
attribute [go_sem] T_l06Kind K_l06Kind
def K_l03Ok:Con:=⟨[.val ((.row 2 (.int .i64)))],[⟨.bool,true⟩],fun _=>True,fun x=>l03B x.1⟩
theorem l03Ok_ok:PureT Try.prog 19 K_l03Ok:=by
  refine pure_of_body Try.func19 rfl ?_
  have hres:Try.f19.results.toList=[.tmp 2]:=rfl
  rintro⟨(xs:List Int),_⟩ hc hL
  simp only[K_l03Ok,go_sem] at hL
  simp only[K_l03Ok,St.init,St.initG,Try.ntmps19,go_sem] 
  refine oS fun _ hK1=>?_
  refine oW T_l06Kind_ok ?_
  simp only[go_sem]
  refine hK1 _ ?_
  refine oS fun _ hK2=>?_
  refine oS fun _ hK3=>?_
  refine oW T_l06Kind_ok ?_
  simp only[go_sem]
  refine hK3 _ ?_
  refine oC rfl ?_ ?_
  ·
   intro c0
   refine oS fun _ hK4=>?_
   refine oW T_l06Kind_ok ?_
   simp only[go_sem]
   refine hK4 _ ?_
   refine AWP_ret ?_
   simp only[hres,go_sem]
   first|exact oF|(refine⟨?_,oF⟩;rw[l03B,decide_eq_false (by omega)];rfl)
  intro c0
  refine AWP_skip ?_
  simp only[go_sem]
  refine hK2 _ ?_
  refine oS fun _ hK5=>?_
  refine oS fun _ hK6=>?_
  refine oW T_l06Kind_ok ?_
  simp only[go_sem]
  refine hK6 _ ?_
  refine AWP_block ?_
  refine AWP_loop_k (ι:={ k:Nat // k≤xs.length∧(xs.take k).all smp=true }) (fun k=>⟨[.c (.rd [] 2 (.int .i64) (xs)),zz,zz,.c (.sc (.int .i64 (k.1))),zz,zz,zz,zz,zz,zz,zz,zz,zz,zz,zz,zz,zz,zz,zz],[]⟩) (fun k=>xs.length - k.1) ⟨0,by simp⟩ ?_ ?_
  ·
   refine oK ?_
   simp (maxSteps:=2000000)only[go_sem]
   all_goals(first|rfl|((repeat' refine And.intro ?_ ?_)<;>first|rfl|simp))
  rintro⟨k,hk,hp⟩ K7 hL7
  refine oS fun _ hK8=>?_
  refine oS fun _ hK9=>?_
  refine oW T_l06Kind_ok ?_
  simp only[go_sem]
  refine hK9 _ ?_
  refine oC rfl ?_ ?_
  ·
   intro c1
   refine AWP_skip ?_
   simp only[go_sem]
   refine hK8 _ ?_
   refine oS fun _ hK10=>?_
   refine AWP_block ?_
   refine oS fun _ hK11=>?_
   refine oW T_l06Kind_ok ?_
   simp (maxSteps:=2000000)only[go_sem]
   repeat(with_reducible refine oA ?_)
   refine hK11 _ ?_
   refine oC rfl ?_ ?_
   ·
    intro c2
    refine oS fun _ hK12=>?_
    refine oW T_l06Kind_ok ?_
    simp only[go_sem]
    refine hK12 _ ?_
    refine AWP_ret ?_
    simp only[hres,go_sem]
    first|exact oF|(refine⟨?_,oF⟩;rw[l03B,decide_eq_true (by omega),smps,all_stop (k:=k) (d:=0) (by omega) (by assumption)];rfl)
   intro c2
   refine AWP_skip ?_
   simp only[go_sem]
   refine hK10 _ ?_
   refine oW T_l06Kind_ok ?_
   simp only[go_sem]
   refine hL7 ⟨k+1,by omega,all_next (d:=0) (by omega) hp (by first|assumption|(clear hK1 hK2 hK3 hK5 hK6 hL7 hK8 hK9 hK10 hK11;simp_all))⟩ _ (oK ?_) ?_
   ·
    simp (maxSteps:=2000000)only[go_sem]
    first|rfl|exact wk (by omega)
   ·
    first|(simp only[];omega)|omega|(simp;omega)
  intro c1
  refine AWP_exit ?_
  simp only[go_sem]
  refine hK5 _ ?_
  refine oS fun _ hK13=>?_
  refine oW T_l06Kind_ok ?_
  simp only[go_sem]
  refine hK13 _ ?_
  refine AWP_ret ?_
  simp only[hres,go_sem]
  first|exact oF|(refine⟨?_,oF⟩;rw[l03B,decide_eq_true (by omega),smps,all_done hp (by omega)];rfl)
def T_l03Ok:Tab:=fun f=>if f=19 then some (.p K_l03Ok) else T_l06Kind f
theorem T_l03Ok_ok:TabOk Try.prog T_l03Ok:=tabP l03Ok_ok (fnOk_of Try.func19 rfl (by decide)) T_l06Kind_ok
attribute [go_sem] T_l03Ok K_l03Ok
def K_l00Has:Con:=⟨[.val ((.row 2 (.int .i64))),.val (.int .i64)],[⟨.bool,true⟩],fun _=>True,fun x=>x.1.contains x.2.1⟩
theorem l00Has_ok:PureT Try.prog 65 K_l00Has:=by
  refine pure_of_body Try.func65 rfl ?_
  have hres:Try.f65.results.toList=[.tmp 4]:=rfl
  rintro⟨(xs:List Int),(m:Int),_⟩ hc hL
  simp only[K_l00Has,go_sem] at hL
  simp only[K_l00Has,St.init,St.initG,Try.ntmps65,go_sem] 
  refine oS fun _ hK1=>?_
  refine oW T_l03Ok_ok ?_
  simp only[go_sem]
  refine hK1 _ ?_
  refine oS fun _ hK2=>?_
  refine oS fun _ hK3=>?_
  refine oW T_l03Ok_ok ?_
  simp only[go_sem]
  refine hK3 _ ?_
  refine AWP_block ?_
  refine AWP_loop_k (ι:={ k:Nat // k≤xs.length∧(xs.take k).contains m=false }) (fun k=>⟨[.c (.rd [] 2 (.int .i64) (xs)),.c (.sc (.int .i64 (m))),zz,zz,zz,.c (.sc (.int .i64 (k.1))),zz,zz,zz,zz,zz,zz,zz,zz,zz,zz,zz,zz],[]⟩) (fun k=>xs.length - k.1) ⟨0,by simp,by simp⟩ ?_ ?_
  ·
   refine oK ?_
   simp (maxSteps:=2000000)only[go_sem]
   all_goals(first|rfl|((repeat' refine And.intro ?_ ?_)<;>first|rfl|simp))
  rintro⟨k,hk,hp⟩ K4 hL4
  refine oS fun _ hK5=>?_
  refine oS fun _ hK6=>?_
  refine oW T_l03Ok_ok ?_
  simp only[go_sem]
  refine hK6 _ ?_
  refine oC rfl ?_ ?_
  ·
   intro c0
   refine AWP_skip ?_
   simp only[go_sem]
   refine hK5 _ ?_
   refine oS fun _ hK7=>?_
   refine AWP_block ?_
   refine oS fun _ hK8=>?_
   refine oW T_l03Ok_ok ?_
   simp (maxSteps:=2000000)only[go_sem]
   repeat(with_reducible refine oA ?_)
   refine hK8 _ ?_
   refine oC rfl ?_ ?_
   ·
    intro c1
    refine oS fun _ hK9=>?_
    refine oW T_l03Ok_ok ?_
    simp only[go_sem]
    refine hK9 _ ?_
    refine AWP_ret ?_
    simp only[hres,go_sem]
    first|exact oF|(refine⟨?_,oF⟩;exact(has_stop (k:=k) (by omega) c1).symm)
   intro c1
   refine AWP_skip ?_
   simp only[go_sem]
   refine hK7 _ ?_
   refine oW T_l03Ok_ok ?_
   simp only[go_sem]
   refine hL4 ⟨k+1,by omega,has_next (by omega) hp c1⟩ _ (oK ?_) ?_
   ·
    simp (maxSteps:=2000000)only[go_sem]
    all_goals(first|rfl|((repeat' refine And.intro ?_ ?_)<;>first|rfl|exact wk (by omega)|simp))
   ·
    first|(simp only[];omega)|omega|(simp;omega)
  intro c0
  refine AWP_exit ?_
  simp only[go_sem]
  refine hK2 _ ?_
  refine oS fun _ hK10=>?_
  refine oW T_l03Ok_ok ?_
  simp only[go_sem]
  refine hK10 _ ?_
  refine AWP_ret ?_
  simp only[hres,go_sem]
  first|exact oF|(refine⟨?_,oF⟩;exact(has_done hp (by omega)).symm)
def T_l00Has:Tab:=fun f=>if f=65 then some (.p K_l00Has) else T_l03Ok f
theorem T_l00Has_ok:TabOk Try.prog T_l00Has:=tabP l00Has_ok (fnOk_of Try.func65 rfl (by decide)) T_l03Ok_ok
attribute [go_sem] T_l00Has K_l00Has
def K_l00Min:Con:=⟨[.val (.int .i64),.val (.int .i64)],[⟨.int .i64,true⟩],fun _=>True,fun x=>iMin x.1 x.2.1⟩
theorem l00Min_ok:PureT Try.prog 73 K_l00Min:=by
  refine pure_of_body Try.func73 rfl ?_
  have hres:Try.f73.results.toList=[.tmp 4]:=rfl
  rintro⟨(x:Int),(y:Int),_⟩ hc hL
  simp only[K_l00Min,go_sem] at hL
  simp only[K_l00Min,St.init,St.initG,Try.ntmps73,go_sem] 
  refine oS fun _ hK1=>?_
  refine oW T_l00Has_ok ?_
  simp only[go_sem]
  refine hK1 _ ?_
  refine oS fun _ hK2=>?_
  refine oS fun _ hK3=>?_
  refine oW T_l00Has_ok ?_
  simp only[go_sem]
  refine hK3 _ ?_
  refine oC rfl ?_ ?_
  ·
   intro c0
   refine oS fun _ hK4=>?_
   refine oW T_l00Has_ok ?_
   simp only[go_sem]
   refine hK4 _ ?_
   refine AWP_ret ?_
   simp only[hres,go_sem]
   first|exact oF|(refine⟨?_,oF⟩;exact iMin_l (by omega))
  intro c0
  refine AWP_skip ?_
  simp only[go_sem]
  refine hK2 _ ?_
  refine oS fun _ hK5=>?_
  refine oW T_l00Has_ok ?_
  simp only[go_sem]
  refine hK5 _ ?_
  refine AWP_ret ?_
  simp only[hres,go_sem]
  first|exact oF|(refine⟨?_,oF⟩;exact iMin_r (by omega))
def T_l00Min:Tab:=fun f=>if f=73 then some (.p K_l00Min) else T_l00Has f
theorem T_l00Min_ok:TabOk Try.prog T_l00Min:=tabP l00Min_ok (fnOk_of Try.func73 rfl (by decide)) T_l00Has_ok
attribute [go_sem] T_l00Min K_l00Min
def K_l00Max:Con:=⟨[.val (.int .i64),.val (.int .i64)],[⟨.int .i64,true⟩],fun _=>True,fun x=>iMax x.1 x.2.1⟩
theorem l00Max_ok:PureT Try.prog 72 K_l00Max:=by
  refine pure_of_body Try.func72 rfl ?_
  have hres:Try.f72.results.toList=[.tmp 4]:=rfl
  rintro⟨(x:Int),(y:Int),_⟩ hc hL
  simp only[K_l00Max,go_sem] at hL
  simp only[K_l00Max,St.init,St.initG,Try.ntmps72,go_sem] 
  refine oS fun _ hK1=>?_
  refine oW T_l00Min_ok ?_
  simp only[go_sem]
  refine hK1 _ ?_
  refine oS fun _ hK2=>?_
  refine oS fun _ hK3=>?_
  refine oW T_l00Min_ok ?_
  simp only[go_sem]
  refine hK3 _ ?_
  refine oC rfl ?_ ?_
  ·
   intro c0
   refine oS fun _ hK4=>?_
   refine oW T_l00Min_ok ?_
   simp only[go_sem]
   refine hK4 _ ?_
   refine AWP_ret ?_
   simp only[hres,go_sem]
   first|exact oF|(refine⟨?_,oF⟩;exact iMax_l (by omega))
  intro c0
  refine AWP_skip ?_
  simp only[go_sem]
  refine hK2 _ ?_
  refine oS fun _ hK5=>?_
  refine oW T_l00Min_ok ?_
  simp only[go_sem]
  refine hK5 _ ?_
  refine AWP_ret ?_
  simp only[hres,go_sem]
  first|exact oF|(refine⟨?_,oF⟩;exact iMax_r (by omega))
def T_l00Max:Tab:=fun f=>if f=72 then some (.p K_l00Max) else T_l00Min f
theorem T_l00Max_ok:TabOk Try.prog T_l00Max:=tabP l00Max_ok (fnOk_of Try.func72 rfl (by decide)) T_l00Min_ok
attribute [go_sem] T_l00Max K_l00Max
def K_l06Arity:Con:=⟨[.val (.int .i64)],[⟨.int .i64,true⟩],fun x=>inR x.1 0 17=true,fun x=>arL.getD (Int.toNat x.1) 0⟩
theorem l06Arity_ok:PureT Try.prog 83 K_l06Arity:=by
  refine pure_of_body Try.func83 rfl ?_
  have hres:Try.f83.results.toList=[.tmp 2]:=rfl
  rintro⟨(x:Int),_⟩ hc hL
  simp only[K_l06Arity,go_sem] at hL
  simp only[K_l06Arity,St.init,St.initG,Try.ntmps83,go_sem] 
  obtain⟨hx1,hx2⟩:=inR_iff.1 (show inR x 0 17=true from hc)
  refine oS fun _ hK1=>?_
  refine oW T_l00Max_ok ?_
  simp only[go_sem]
  refine hK1 _ ?_
  refine oS fun _ hK2=>?_
  refine oW T_l00Max_ok ?_
  simp (maxSteps:=2000000)only[go_sem]
  repeat(with_reducible refine oA ?_)
  refine hK2 _ ?_
  refine AWP_ret ?_
  simp only[hres,go_sem]
  first|exact oF|exact oFr
def T_l06Arity:Tab:=fun f=>if f=83 then some (.p K_l06Arity) else T_l00Max f
theorem T_l06Arity_ok:TabOk Try.prog T_l06Arity:=tabP l06Arity_ok (fnOk_of Try.func83 rfl (by decide)) T_l00Max_ok
attribute [go_sem] T_l06Arity K_l06Arity
def K_l06HasA:Con:=⟨[.val (.int .i64)],[⟨.bool,true⟩],fun _=>True,fun x=>hasAL.contains x.1⟩
theorem l06HasA_ok:PureT Try.prog 91 K_l06HasA:=by
  refine pure_of_body Try.func91 rfl ?_
  have hres:Try.f91.results.toList=[.tmp 2]:=rfl
  rintro⟨(x:Int),_⟩ hc hL
  simp only[K_l06HasA,go_sem] at hL
  simp only[K_l06HasA,St.init,St.initG,Try.ntmps91,go_sem] 
  refine oS fun _ hK1=>?_
  refine oW T_l06Arity_ok ?_
  simp only[go_sem]
  refine hK1 _ ?_
  refine oS fun _ hK2=>?_
  refine oW T_l06Arity_ok ?_
  simp only[go_sem]
  repeat(with_reducible refine oA ?_)
  refine hK2 _ ?_
  refine AWP_ret ?_
  simp only[hres,go_sem]
  first|exact oF|(refine⟨?_,oF⟩;unfold hasAL;simp only[List.contains_cons,List.contains_nil,Bool.or_false])
def T_l06HasA:Tab:=fun f=>if f=91 then some (.p K_l06HasA) else T_l06Arity f
theorem T_l06HasA_ok:TabOk Try.prog T_l06HasA:=tabP l06HasA_ok (fnOk_of Try.func91 rfl (by decide)) T_l06Arity_ok
attribute [go_sem] T_l06HasA K_l06HasA
def K_l06A:Con:=⟨[.ptr (.prod (.int .i64) (.prod (.int .i64) (.prod (.int .i64) (.row 2 (.int .i64))))),.val (.int .i64)],[⟨.bool,true⟩],fun _=>True,fun x=>l06aB x.1.1 x.1.2.1 x.2.1⟩
theorem l06A_ok:PureT Try.prog 82 K_l06A:=by
  refine pure_of_body Try.func82 rfl ?_
  have hres:Try.f82.results.toList=[.tmp 4]:=rfl
  rintro⟨⟨(kd:Int),(a:Int),(bb:Int),(fr:List Int)⟩,(tb:Int),_⟩ hc hL
  simp only[K_l06A,go_sem] at hL
  simp only[K_l06A,St.init,St.initG,Try.ntmps82,go_sem] 
  refine oS fun _ hK1=>?_
  refine oW T_l06HasA_ok ?_
  simp only[go_sem]
  refine hK1 _ ?_
  refine oS fun _ hK2=>?_
  refine oS fun _ hK3=>?_
  refine oW T_l06HasA_ok ?_
  simp only[go_sem]
  repeat(with_reducible refine oA ?_)
  refine hK3 _ ?_
  refine AWP_block ?_
  refine oS fun _ hK4=>?_
  refine oW T_l06HasA_ok ?_
  simp only[go_sem]
  refine hK4 _ ?_
  refine oC rfl ?_ ?_
  ·
   intro c0
   refine oS fun _ hK5=>?_
   refine oW T_l06HasA_ok ?_
   simp (maxSteps:=2000000)only[go_sem]
   repeat(with_reducible refine oA ?_)
   refine hK5 _ ?_
   refine AWP_ret ?_
   simp only[hres,go_sem]
   first|exact oF|(refine⟨?_,oF⟩;clear hK1 hK2 hK3 hK4 hK5;simp_all [l06aB,iMin,iMax])
  intro c0
  refine oS fun _ hK6=>?_
  refine oW T_l06HasA_ok ?_
  simp only[go_sem]
  refine hK6 _ ?_
  refine oC rfl ?_ ?_
  ·
   intro c1
   refine oS fun _ hK7=>?_
   refine oW T_l06HasA_ok ?_
   simp (maxSteps:=2000000)only[go_sem]
   repeat(with_reducible refine oA ?_)
   refine hK7 _ ?_
   refine AWP_ret ?_
   simp only[hres,go_sem]
   first|exact oF|(refine⟨?_,oF⟩;clear hK1 hK2 hK3 hK4 hK6 hK7;simp_all [l06aB,iMin,iMax])
  intro c1
  refine oS fun _ hK8=>?_
  refine oW T_l06HasA_ok ?_
  simp only[go_sem]
  refine hK8 _ ?_
  refine oC rfl ?_ ?_
  ·
   intro c2
   refine oS fun _ hK9=>?_
   refine oW T_l06HasA_ok ?_
   simp (maxSteps:=2000000)only[go_sem]
   repeat(with_reducible refine oA ?_)
   refine hK9 _ ?_
   refine AWP_ret ?_
   simp only[hres,go_sem]
   first|exact oF|(refine⟨?_,oF⟩;clear hK1 hK2 hK3 hK4 hK6 hK8 hK9;simp_all [l06aB,iMin,iMax])
  intro c2
  refine oS fun _ hK10=>?_
  refine oW T_l06HasA_ok ?_
  simp only[go_sem]
  refine hK10 _ ?_
  refine oC rfl ?_ ?_
  ·
   intro c3
   refine oS fun _ hK11=>?_
   refine oW T_l06HasA_ok ?_
   simp (maxSteps:=2000000)only[go_sem]
   repeat(with_reducible refine oA ?_)
   refine hK11 _ ?_
   refine AWP_ret ?_
   simp only[hres,go_sem]
   first|exact oF|(refine⟨?_,oF⟩;clear hK1 hK2 hK3 hK4 hK6 hK8 hK10 hK11;simp_all [l06aB,iMin,iMax])
  intro c3
  refine oS fun _ hK12=>?_
  refine oW T_l06HasA_ok ?_
  simp only[go_sem]
  refine hK12 _ ?_
  refine oC rfl ?_ ?_
  ·
   intro c4
   refine oS fun _ hK13=>?_
   have hw:IntKind.i64.wrap (iMin (iMax tb 0) 4 - 1)=iMin (iMax tb 0) 4 - 1:=wrapI (by unfold iMin iMax;omega)
   refine oR T_l06HasA_ok
     [[],[0],[0,1],[0,1,2],[],[4],[4,5],[4,5,6],[0,1,2,3,4,5,6,7],[0,1,2,3,4,5,6,7,8]]
     [[],[],[],[],[],[],[],[],[],[]]
     [[],[],[],[],[],[],[],[],[],[]] (by kernel_rfl) (by kernel_rfl) (adrawR_ok (acc:=[]) ?_)
   simp (maxSteps:=2000000)only[hw,go_sem]
   repeat(with_reducible refine oD ?_)
   refine hK13 _ ?_
   refine AWP_ret ?_
   simp only[hres,go_sem]
   first|exact oF|(refine⟨?_,oF⟩;clear hK1 hK2 hK3 hK4 hK6 hK8 hK10 hK12 hK13;simp_all [l06aB,iMin,iMax])
  intro c4
  refine AWP_skip ?_
  simp only[go_sem]
  refine hK2 _ ?_
  refine oS fun _ hK14=>?_
  refine oS fun _ hK15=>?_
  refine oW T_l06HasA_ok ?_
  simp (maxSteps:=2000000)only[go_sem]
  repeat(with_reducible refine oA ?_)
  refine hK15 _ ?_
  refine oC rfl ?_ ?_
  ·
   intro c5
   refine oS fun _ hK16=>?_
   refine oW T_l06HasA_ok ?_
   simp (maxSteps:=2000000)only[go_sem]
   repeat(with_reducible refine oA ?_)
   refine hK16 _ ?_
   refine AWP_ret ?_
   simp only[hres,go_sem]
   first|exact oF|(refine⟨?_,oF⟩;clear hK1 hK2 hK3 hK4 hK6 hK8 hK10 hK12 hK14 hK15 hK16;simp_all [l06aB,iMin,iMax])
  intro c5
  refine AWP_skip ?_
  simp only[go_sem]
  refine hK14 _ ?_
  refine oS fun _ hK17=>?_
  refine oW T_l06HasA_ok ?_
  simp (maxSteps:=2000000)only[go_sem]
  repeat(with_reducible refine oA ?_)
  refine hK17 _ ?_
  refine AWP_ret ?_
  simp only[hres,go_sem]
  first|exact oF|(refine⟨?_,oF⟩;clear hK1 hK2 hK3 hK4 hK6 hK8 hK10 hK12 hK14 hK15 hK17;simp_all [l06aB,iMin,iMax])
def T_l06A:Tab:=fun f=>if f=82 then some (.p K_l06A) else T_l06HasA f
theorem T_l06A_ok:TabOk Try.prog T_l06A:=tabP l06A_ok (fnOk_of Try.func82 rfl (by decide)) T_l06HasA_ok
attribute [go_sem] T_l06A K_l06A
end Go.Proofs.Ytenjbehedcegdaa
