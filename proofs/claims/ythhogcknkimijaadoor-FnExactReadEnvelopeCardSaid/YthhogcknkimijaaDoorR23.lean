/-
  Texts of this claim, joined (part 23). No condition beyond those of the theorems.
-/
import Derived.Test.YthhogcknkimijaaDoorR11
import Derived.Test.YthhogcknkimijaaDoorR16
namespace Go.Proofs.YthhogcknkimijaaDoor
open Go.RowKit
set_option linter.unusedSimpArgs false
set_option linter.unusedVariables false
set_option maxRecDepth 100000
set_option maxHeartbeats 8000000
def K_l01Dec:Con:=⟨[.val (.int .i64)],[⟨.str,true⟩],fun x=>-9223372036854775808≤x.1∧x.1≤9223372036854775807,fun x=>bs (Lib.itoa x.1)⟩
theorem l01Dec_ok:PureT Tryd.prog 49 K_l01Dec:=by
  refine pure_of_body Tryd.func49 rfl ?_
  have hres:Tryd.f49.results.toList=[.tmp 2]:=rfl
  rintro⟨(n:Int),_⟩ hc hL
  simp only[K_l01Dec,go_sem] at hL
  simp only[K_l01Dec,St.init,St.initG,Tryd.ntmps49,go_sem] 
  obtain⟨hn1,hn2⟩:=(show -9223372036854775808≤n∧n≤9223372036854775807 from hc)
  refine oS fun _ hK1=>?_
  refine oW T_l14Ok_ok ?_
  simp only[go_sem]
  refine hK1 _ ?_
  refine oS fun _ hK2=>?_
  refine oW T_l14Ok_ok ?_
  simp only[go_sem]
  repeat(with_reducible refine oA ?_)
  refine hK2 _ ?_
  refine oS fun _ hK3=>?_
  refine oS fun _ hK4=>?_
  refine oW T_l14Ok_ok ?_
  simp only[go_sem]
  refine hK4 _ ?_
  refine AWP_block ?_
  refine AWP_loop_k (ι:={ p:Int × List UInt8 // DecI n p }) (fun k=>⟨[.c (.sc (.int .i64 (n))),zz,zz,.c (.ow 9001),.c (.sc (.int .i64 (k.1.1))),zz,zz,zz,zz,zz,zz,zz,zz,zz,zz,zz,zz,zz,zz,zz,zz,zz,zz,zz,zz,zz,zz,zz,zz,zz,zz,zz,zz,zz],[(9001,.row 5 ((.int .u8)) (nB k.1.2) [])]⟩) (fun k=>k.1.1.natAbs) ⟨(n,[]),DecI.start hn1 hn2⟩ ?_ ?_
  ·
   refine oK ?_
   simp (maxSteps:=2000000)only[go_sem]
   all_goals(first|rfl|((repeat' refine And.intro ?_ ?_)<;>first|rfl|simp))
  rintro⟨⟨m,l⟩,hp⟩ K5 hL5
  obtain⟨hm1,hm2⟩:=hp.2.1
  have hl:=hp.2.2
  simp only at hm1 hm2 hl
  have hw:IntKind.i64.wrap (m.tdiv 10)=m.tdiv 10:=wrapI (by have:=tdiv10 m;omega)
  have hb:=dec_byte m
  refine oS fun _ hK6=>?_
  refine oS fun _ hK7=>?_
  refine oW T_l14Ok_ok ?_
  simp only[go_sem]
  refine hK7 _ ?_
  refine oC rfl ?_ ?_
  ·
   intro c0
   have hm0:m≠0:=by first|assumption|exact of_decide_eq_true (by assumption)|(intro e;simp_all)
   refine AWP_skip ?_
   simp only[go_sem]
   refine hK6 _ ?_
   refine oS fun _ hK8=>?_
   refine AWP_block ?_
   refine oS fun _ hK9=>?_
   refine oW T_l14Ok_ok ?_
   simp only[go_sem]
   repeat(with_reducible refine oA ?_)
   refine hK9 _ ?_
   refine oS fun _ hK10=>?_
   refine oS fun _ hK11=>?_
   refine oW T_l14Ok_ok ?_
   simp only[go_sem]
   refine hK11 _ ?_
   refine oC rfl ?_ ?_
   ·
    intro c1
    have hd:=dec_neg hm1 hm2 c1
    refine oW T_l14Ok_ok ?_
    simp only[hd,go_sem]
    repeat(with_reducible refine oA ?_)
    refine hK10 _ ?_
    refine oW T_l14Ok_ok ?_
    simp (maxSteps:=2000000)only[hd,hb,go_sem]
    repeat(with_reducible refine oA ?_)
    refine hK8 _ ?_
    refine oW T_l14Ok_ok ?_
    simp only[hw,go_sem]
    repeat(with_reducible refine oA ?_)
    refine hL5 ⟨(m.tdiv 10,UInt8.ofNat (48+m.natAbs % 10)::l),DecI.next hp hn1 hn2 hm0⟩ _ (oK ?_) ?_
    ·
     simp (maxSteps:=2000000)only[go_sem]
     all_goals((repeat' refine And.intro ?_ ?_)<;>first|rfl|(congr 1;done))
    ·
     show (m.tdiv 10).natAbs < m.natAbs
     rw[tdiv10]
     omega
   intro c1
   have hd:=dec_pos (m:=m) (by omega)
   refine AWP_skip ?_
   simp only[go_sem]
   refine hK10 _ ?_
   refine oW T_l14Ok_ok ?_
   simp (maxSteps:=2000000)only[hd,hb,go_sem]
   repeat(with_reducible refine oA ?_)
   refine hK8 _ ?_
   refine oW T_l14Ok_ok ?_
   simp only[hw,go_sem]
   repeat(with_reducible refine oA ?_)
   refine hL5 ⟨(m.tdiv 10,UInt8.ofNat (48+m.natAbs % 10)::l),DecI.next hp hn1 hn2 hm0⟩ _ (oK ?_) ?_
   ·
    simp (maxSteps:=2000000)only[go_sem]
    all_goals((repeat' refine And.intro ?_ ?_)<;>first|rfl|(congr 1;done))
   ·
    show (m.tdiv 10).natAbs < m.natAbs
    rw[tdiv10]
    omega
  intro c0
  have hm0:m=0:=by first|assumption|exact of_decide_eq_false (by assumption)|simp_all
  refine AWP_exit ?_
  simp only[go_sem]
  refine hK3 _ ?_
  refine oS fun _ hK12=>?_
  refine oS fun _ hK13=>?_
  refine oW T_l14Ok_ok ?_
  simp only[go_sem]
  refine hK13 _ ?_
  refine oC rfl ?_ ?_
  ·
   intro c2
   refine oS fun _ hK14=>?_
   refine oW T_l14Ok_ok ?_
   simp only[go_sem]
   refine hK14 _ ?_
   refine AWP_ret ?_
   simp only[hres,go_sem]
   first
    | exact oF
    | refine ⟨?_, oF⟩
      subst hm0
      rw[dec_0 hp (by omega)]
  intro c2
  refine AWP_skip ?_
  simp only[go_sem]
  refine hK12 _ ?_
  refine oS fun _ hK15=>?_
  refine oS fun _ hK16=>?_
  refine oW T_l14Ok_ok ?_
  simp only[go_sem]
  refine hK16 _ ?_
  refine oC rfl ?_ ?_
  ·
   intro c3
   refine oS fun _ hK17=>?_
   refine oW T_l14Ok_ok ?_
   simp only[go_sem]
   repeat(with_reducible first|refine oA ?_|refine And.intro (by first|omega) ?_)
   refine hK17 _ ?_
   refine AWP_ret ?_
   simp only[hres,go_sem]
   first
    | exact oF
    | refine ⟨?_, oF⟩
      subst hm0
      rw[dec_ne hp (by omega),if_pos (by omega)]
  intro c3
  refine AWP_skip ?_
  simp only[go_sem]
  refine hK15 _ ?_
  refine oS fun _ hK18=>?_
  refine oW T_l14Ok_ok ?_
  simp only[go_sem]
  refine hK18 _ ?_
  refine AWP_ret ?_
  simp only[hres,go_sem]
  first
   | exact oF
   | refine ⟨?_, oF⟩
     subst hm0
     rw[dec_ne hp (by omega),if_neg (by omega)]
def T_l01Dec:Tab:=fun f=>if f=49 then some (.p K_l01Dec) else T_l14Ok f
theorem T_l01Dec_ok:TabOk Tryd.prog T_l01Dec:=tabP l01Dec_ok (fnOk_of Tryd.func49 rfl (by decide)) T_l14Ok_ok
attribute [go_sem] T_l01Dec K_l01Dec
def K_l14Text:Con:=⟨[.ptr (.prod (.int .i64) (.prod (.row 48 (.prod (.int .i64) (.int .i64))) (.int .i64)))],[⟨.str,true⟩],fun x=>envB x.1=true,fun x=>bs (envT x.1)⟩
theorem l14Text_ok:PureT Tryd.prog 25 K_l14Text:=by
  refine pure_of_body Tryd.func25 rfl ?_
  have hres:Tryd.f25.results.toList=[.tmp 2]:=rfl
  rintro⟨⟨(st:Int),(sg:List (Int × Int)),(rl:Int)⟩,_⟩ hc hL
  simp only[K_l14Text,go_sem] at hL
  simp only[K_l14Text,St.init,St.initG,Tryd.ntmps25,go_sem] 
  have c0:envB (st,sg,rl)=true:=hc
  obtain⟨ha,hst,hrl,hsl⟩:=envB_parts c0
  simp only at ha hst hrl hsl
  obtain⟨hst1,hst2⟩:=inR_iff.1 hst
  obtain⟨hrl1,hrl2⟩:=inR_iff.1 hrl
  have hr5:=itoa_len hrl1 (by omega:rl≤65536)
  have hb1:-9223372036854775808≤st∧st≤9223372036854775807:=⟨by omega,by omega⟩
  have hb2:-9223372036854775808≤rl∧rl≤9223372036854775807:=⟨by omega,by omega⟩
  refine oS fun _ hK1=>?_
  refine oW T_l01Dec_ok ?_
  simp only[go_sem]
  refine hK1 _ ?_
  refine oS fun _ hK2=>?_
  refine oW T_l01Dec_ok ?_
  simp (maxSteps:=2000000)only[go_sem]
  repeat(with_reducible first|refine oA ?_|refine And.intro (by first|exact hb1|exact hb2|exact hb3|exact hb4|omega) ?_)
  refine hK2 _ ?_
  refine oS fun _ hK3=>?_
  refine oS fun _ hK4=>?_
  refine oW T_l01Dec_ok ?_
  simp only[go_sem]
  refine hK4 _ ?_
  refine AWP_block ?_
  refine AWP_loop_k (ι:={ k:Nat // k≤sg.length }) (fun k=>⟨[.c (.pt [] ((.prod (.int .i64) (.prod (.row 48 (.prod (.int .i64) (.int .i64))) (.int .i64)))) (st,sg,rl) 0),zz,zz,.c (.sc (.string (bs (Lib.itoa st++segsT (sg.take k.1))))),.c (.sc (.int .i64 (k.1))),zz,zz,zz,zz,zz,zz,zz,zz,zz,zz,zz,zz,zz,zz,zz,zz,zz,zz,zz,zz,zz,zz,zz,zz,zz,zz,zz,zz,zz,zz,zz,zz,zz,zz,zz,zz,zz,zz,zz,zz,zz,zz,zz,zz,zz],[]⟩) (fun k=>sg.length - k.1) ⟨0,by simp⟩ ?_ ?_
  ·
   refine oK ?_
   simp (maxSteps:=2000000)only[go_sem]
   all_goals((repeat' refine And.intro ?_ ?_)<;>first|rfl|(congr 1;simp[segsT];done)|(simp[segsT];done))
  rintro⟨k,hk⟩ K5 hL5
  have hT:(Lib.itoa st++segsT (sg.take k)).length≤200:=text_len (by omega) (by omega) ha hsl k
  simp only[List.length_append] at hT
  have hx:k < sg.length→((0≤(sg.getD k ((0,0):Int × Int)).1∧(sg.getD k ((0,0):Int × Int)).1≤65536)∧0≤(sg.getD k ((0,0):Int × Int)).2∧(sg.getD k ((0,0):Int × Int)).2≤65536)∧(Lib.itoa (sg.getD k ((0,0):Int × Int)).1).length≤5∧(Lib.itoa (sg.getD k ((0,0):Int × Int)).2).length≤5∧Lib.itoa st++segsT (sg.take (k+1))=Lib.itoa st++segsT (sg.take k)++([32,62]++Lib.itoa (sg.getD k ((0,0):Int × Int)).2++[58]++Lib.itoa (sg.getD k ((0,0):Int × Int)).1):=fun h=>seg_at ha h st
  refine oS fun _ hK6=>?_
  refine oS fun _ hK7=>?_
  refine oW T_l01Dec_ok ?_
  simp (maxSteps:=2000000)only[go_sem]
  repeat(with_reducible refine oA ?_)
  refine hK7 _ ?_
  refine oC rfl ?_ ?_
  ·
   intro c0
   obtain⟨⟨⟨hx11,hx12⟩,hx21,hx22⟩,hx1,hx2,hx3⟩:=hx (by omega)
   have hb3:-9223372036854775808≤(sg.getD k ((0,0):Int × Int)).1∧(sg.getD k ((0,0):Int × Int)).1≤9223372036854775807:=⟨by omega,by omega⟩
   have hb4:-9223372036854775808≤(sg.getD k ((0,0):Int × Int)).2∧(sg.getD k ((0,0):Int × Int)).2≤9223372036854775807:=⟨by omega,by omega⟩
   refine AWP_skip ?_
   simp only[go_sem]
   refine hK6 _ ?_
   refine oS fun _ hK8=>?_
   refine AWP_block ?_
   refine oR T_l01Dec_ok
     [[],[],[1],[1,2],[1,2,3],[],[1,2,3,4,5],[1,2,3,4,5,6],[1,2,3,4,5,6,7],[1,2,3,4,5,6,7,8],[1,2,3,4,5,6,7,8,9],[1,2,3,4,5,6,7,8,9,10],[],[12],[12,13],[12,13,14],[],[12,13,14,15,16],[12,13,14,15,16,17],[12,13,14,15,16,17,18],[1,2,3,4,5,6,7,8,9,12,13,14,15,16,17,18,19],[1,2,3,4,5,6,7,8,9,10,11,12,13,14,15,16,17,18,19,20],[0,1,2,3,4,5,6,7,8,9,10,11,12,13,14,15,16,17,18,19,20,21],[0,1,2,3,4,5,6,7,8,9,10,11,12,13,14,15,16,17,18,19,20,21,22]]
     [[],[],[],[],[],[],[],[],[],[],[],[],[],[],[],[],[],[],[],[],[],[],[],[]]
     [[],[],[],[],[],[],[],[],[],[],[],[],[],[],[],[],[],[],[],[],[],[],[],[]] (by kernel_rfl) (by kernel_rfl) (adrawR_ok (acc:=[]) ?_)
   simp (maxSteps:=2000000)only[List.length_append,List.length_cons,List.length_nil,go_sem]
   repeat(with_reducible first|refine oD ?_|refine And.intro (by first|exact hb1|exact hb2|exact hb3|exact hb4|omega) ?_)
   refine hK8 _ ?_
   refine oW T_l01Dec_ok ?_
   simp only[go_sem]
   refine hL5 ⟨k+1,by omega⟩ _ (oK ?_) ?_
   ·
    simp (maxSteps:=2000000)only[go_sem]
    all_goals((repeat' refine And.intro ?_ ?_)<;>first|rfl|exact wk (by omega)|(congr 1;rw[hx3];simp only[List.append_assoc,List.cons_append,List.nil_append];done)|(rw[hx3];simp only[List.append_assoc,List.cons_append,List.nil_append];done))
   ·
    first|(simp only[];omega)|omega|(simp;omega)
  intro c0
  refine AWP_exit ?_
  simp only[go_sem]
  refine hK3 _ ?_
  refine oS fun _ hK9=>?_
  refine oW T_l01Dec_ok ?_
  simp (maxSteps:=2000000)only[List.length_append,List.length_cons,List.length_nil,go_sem]
  repeat(with_reducible first|refine oA ?_|refine And.intro (by first|exact hb1|exact hb2|exact hb3|exact hb4|omega) ?_)
  refine hK9 _ ?_
  refine AWP_ret ?_
  simp only[hres,go_sem]
  first
   | exact oF
   | refine ⟨?_, oF⟩
     rw[envT_ok hc]
     have hk3:sg.take k=sg:=List.take_of_length_le (by omega)
     rw[hk3]
     first|rfl|(simp only[textE,List.append_assoc,List.cons_append,List.nil_append];done)
def T_l14Text:Tab:=fun f=>if f=25 then some (.p K_l14Text) else T_l01Dec f
theorem T_l14Text_ok:TabOk Tryd.prog T_l14Text:=tabP l14Text_ok (fnOk_of Tryd.func25 rfl (by decide)) T_l01Dec_ok
attribute [go_sem] T_l14Text K_l14Text
def K_specEnvT:Con:=⟨[.val ((.prod (.int .i64) (.prod (.row 48 (.prod (.int .i64) (.int .i64))) (.int .i64))))],[⟨.str,true⟩],fun _=>True,fun x=>bs (envT x.1)⟩
theorem specEnvT_ok:PureT Tryd.prog 7 K_specEnvT:=by
  refine pure_of_body Tryd.func7 rfl ?_
  have hres:Tryd.f7.results.toList=[.tmp 2]:=rfl
  rintro⟨⟨(st:Int),(sg:List (Int × Int)),(rl:Int)⟩,_⟩ hc hL
  simp only[K_specEnvT,go_sem] at hL
  simp only[K_specEnvT,St.init,St.initG,Tryd.ntmps7,go_sem] 
  refine oS fun _ hK1=>?_
  refine oW T_l14Text_ok ?_
  simp only[go_sem]
  repeat(with_reducible first|refine oA ?_|refine And.intro (by first|assumption) ?_)
  refine hK1 _ ?_
  refine oS fun _ hK2=>?_
  refine oS fun _ hK3=>?_
  refine oW T_l14Text_ok ?_
  simp only[go_sem]
  repeat(with_reducible first|refine oA ?_|refine And.intro (by first|assumption) ?_)
  refine hK3 _ ?_
  refine oC rfl ?_ ?_
  ·
   intro c0
   refine oS fun _ hK4=>?_
   refine oW T_l14Text_ok ?_
   simp only[go_sem]
   repeat(with_reducible first|refine oA ?_|refine And.intro (by first|assumption) ?_)
   refine hK4 _ ?_
   refine AWP_ret ?_
   simp only[hres,go_sem]
   first|exact oF|(refine⟨?_,oF⟩;rw[envT_no c0])
  intro c0
  refine AWP_skip ?_
  simp only[go_sem]
  refine hK2 _ ?_
  refine oS fun _ hK5=>?_
  refine oW T_l14Text_ok ?_
  simp only[go_sem]
  repeat(with_reducible first|refine oA ?_|refine And.intro (by first|assumption) ?_)
  refine hK5 _ ?_
  refine AWP_ret ?_
  simp only[hres,go_sem]
  first|exact oF|exact oFr
def T_specEnvT:Tab:=fun f=>if f=7 then some (.p K_specEnvT) else T_l14Text f
theorem T_specEnvT_ok:TabOk Tryd.prog T_specEnvT:=tabP specEnvT_ok (fnOk_of Tryd.func7 rfl (by decide)) T_l14Text_ok
attribute [go_sem] T_specEnvT K_specEnvT
end Go.Proofs.YthhogcknkimijaaDoor
