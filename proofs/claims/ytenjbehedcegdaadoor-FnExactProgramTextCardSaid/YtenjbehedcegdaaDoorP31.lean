/-
  Texts of this claim, joined (part 31). No condition beyond those of the theorems.
-/
import Derived.Test.YtenjbehedcegdaaDoorP16
import Derived.Test.YtenjbehedcegdaaDoorP13
import Derived.Test.YtenjbehedcegdaaDoorP23
import Derived.Test.YtenjbehedcegdaaDoorP02
namespace Go.Proofs.YtenjbehedcegdaaDoor
open Go.RowKit
set_option linter.unusedSimpArgs false
set_option linter.unusedVariables false
set_option maxRecDepth 100000
set_option maxHeartbeats 1000000
def K_l01Dec:Con:=⟨[.val (.int .i64)],[⟨.str,true⟩],fun x=>-9223372036854775808≤x.1∧x.1≤9223372036854775807,fun x=>bs (Lib.itoa x.1)⟩
theorem l01Dec_ok:PureT Tryd.prog 28 K_l01Dec:=by
  refine pure_of_body Tryd.func28 rfl ?_
  have hres:Tryd.f28.results.toList=[.tmp 2]:=rfl
  rintro⟨(n:Int),_⟩ hc hL
  simp only[K_l01Dec,go_sem] at hL
  simp only[K_l01Dec,St.init,St.initG,Tryd.ntmps28,go_sem] 
  obtain⟨hn1,hn2⟩:=(show -9223372036854775808≤n∧n≤9223372036854775807 from hc)
  refine oS fun _ hK1=>?_
  refine oW T0_ok ?_
  simp only[go_sem]
  refine hK1 _ ?_
  refine oS fun _ hK2=>?_
  refine oW T0_ok ?_
  simp only[go_sem]
  repeat(with_reducible refine oA ?_)
  refine hK2 _ ?_
  refine oS fun _ hK3=>?_
  refine oS fun _ hK4=>?_
  refine oW T0_ok ?_
  simp only[go_sem]
  refine hK4 _ ?_
  refine AWP_block ?_
  refine AWP_loop_k (ι:={ p:Int × List UInt8 // DecI n p }) (fun k=>⟨[.c (.sc (.int .i64 (n))),zz,zz,.c (.ow 9001),.c (.sc (.int .i64 (k.1.1))),zz,zz,zz,zz,zz,zz,zz,zz,zz,zz,zz,zz,zz,zz,zz,zz,zz,zz,zz,zz,zz,zz,zz,zz,zz,zz,zz,zz,zz],[(9001,.row 5 ((.int .u8)) (nB k.1.2) [])]⟩) (fun k=>k.1.1.natAbs) ⟨(n,[]),DecI.start hn1 hn2⟩ ?_ ?_
  ·
   refine oK ?_
   simp (maxSteps:=2000000)only[go_sem]
   all_goals(first|rfl|((repeat' refine And.intro ?_ ?_)<;>first|rfl|simp))
  rintro⟨⟨m,l⟩,hp⟩ K5 hL5
  obtain⟨hm1,hm2⟩:=hp.2.1
  have hl:=hp.2.2
  simp only at hm1 hm2 hl
  have hw:IntKind.i64.wrap (m.tdiv 10)=m.tdiv 10:=wrapI (by have:=tdiv10 m;omega)
  have hb:=dec_byte m
  refine oS fun _ hK6=>?_
  refine oS fun _ hK7=>?_
  refine oW T0_ok ?_
  simp only[go_sem]
  refine hK7 _ ?_
  refine oC rfl ?_ ?_
  ·
   intro c0
   have hm0:m≠0:=by first|assumption|exact of_decide_eq_true (by assumption)|(intro e;simp_all)
   refine AWP_skip ?_
   simp only[go_sem]
   refine hK6 _ ?_
   refine oS fun _ hK8=>?_
   refine AWP_block ?_
   refine oS fun _ hK9=>?_
   refine oW T0_ok ?_
   simp only[go_sem]
   repeat(with_reducible refine oA ?_)
   refine hK9 _ ?_
   refine oS fun _ hK10=>?_
   refine oS fun _ hK11=>?_
   refine oW T0_ok ?_
   simp only[go_sem]
   refine hK11 _ ?_
   refine oC rfl ?_ ?_
   ·
    intro c1
    have hd:=dec_neg hm1 hm2 c1
    refine oW T0_ok ?_
    simp only[hd,go_sem]
    repeat(with_reducible refine oA ?_)
    refine hK10 _ ?_
    refine oW T0_ok ?_
    simp (maxSteps:=2000000)only[hd,hb,go_sem]
    repeat(with_reducible refine oA ?_)
    refine hK8 _ ?_
    refine oW T0_ok ?_
    simp only[hw,go_sem]
    repeat(with_reducible refine oA ?_)
    refine hL5 ⟨(m.tdiv 10,UInt8.ofNat (48+m.natAbs % 10)::l),DecI.next hp hn1 hn2 hm0⟩ _ (oK ?_) ?_
    ·
     simp (maxSteps:=2000000)only[go_sem]
     all_goals((repeat' refine And.intro ?_ ?_)<;>first|rfl|(congr 1;done))
    ·
     show (m.tdiv 10).natAbs < m.natAbs
     rw[tdiv10]
     omega
   intro c1
   have hd:=dec_pos (m:=m) (by omega)
   refine AWP_skip ?_
   simp only[go_sem]
   refine hK10 _ ?_
   refine oW T0_ok ?_
   simp (maxSteps:=2000000)only[hd,hb,go_sem]
   repeat(with_reducible refine oA ?_)
   refine hK8 _ ?_
   refine oW T0_ok ?_
   simp only[hw,go_sem]
   repeat(with_reducible refine oA ?_)
   refine hL5 ⟨(m.tdiv 10,UInt8.ofNat (48+m.natAbs % 10)::l),DecI.next hp hn1 hn2 hm0⟩ _ (oK ?_) ?_
   ·
    simp (maxSteps:=2000000)only[go_sem]
    all_goals((repeat' refine And.intro ?_ ?_)<;>first|rfl|(congr 1;done))
   ·
    show (m.tdiv 10).natAbs < m.natAbs
    rw[tdiv10]
    omega
  intro c0
  have hm0:m=0:=by first|assumption|exact of_decide_eq_false (by assumption)|simp_all
  refine AWP_exit ?_
  simp only[go_sem]
  refine hK3 _ ?_
  refine oS fun _ hK12=>?_
  refine oS fun _ hK13=>?_
  refine oW T0_ok ?_
  simp only[go_sem]
  refine hK13 _ ?_
  refine oC rfl ?_ ?_
  ·
   intro c2
   refine oS fun _ hK14=>?_
   refine oW T0_ok ?_
   simp only[go_sem]
   refine hK14 _ ?_
   refine AWP_ret ?_
   simp only[hres,go_sem]
   first
    | exact oF
    | refine ⟨?_, oF⟩
      subst hm0
      rw[dec_0 hp (by omega)]
  intro c2
  refine AWP_skip ?_
  simp only[go_sem]
  refine hK12 _ ?_
  refine oS fun _ hK15=>?_
  refine oS fun _ hK16=>?_
  refine oW T0_ok ?_
  simp only[go_sem]
  refine hK16 _ ?_
  refine oC rfl ?_ ?_
  ·
   intro c3
   refine oS fun _ hK17=>?_
   refine oW T0_ok ?_
   simp only[go_sem]
   repeat(with_reducible first|refine oA ?_|refine And.intro (by first|omega) ?_)
   refine hK17 _ ?_
   refine AWP_ret ?_
   simp only[hres,go_sem]
   first
    | exact oF
    | refine ⟨?_, oF⟩
      subst hm0
      rw[dec_ne hp (by omega),if_pos (by omega)]
  intro c3
  refine AWP_skip ?_
  simp only[go_sem]
  refine hK15 _ ?_
  refine oS fun _ hK18=>?_
  refine oW T0_ok ?_
  simp only[go_sem]
  refine hK18 _ ?_
  refine AWP_ret ?_
  simp only[hres,go_sem]
  first
   | exact oF
   | refine ⟨?_, oF⟩
     subst hm0
     rw[dec_ne hp (by omega),if_neg (by omega)]
def T_l01Dec:Tab:=fun f=>if f=28 then some (.p K_l01Dec) else T0 f
theorem T_l01Dec_ok:TabOk Tryd.prog T_l01Dec:=tabP l01Dec_ok (fnOk_of Tryd.func28 rfl (by decide)) T0_ok
attribute [go_sem] T_l01Dec K_l01Dec
end Go.Proofs.YtenjbehedcegdaaDoor
