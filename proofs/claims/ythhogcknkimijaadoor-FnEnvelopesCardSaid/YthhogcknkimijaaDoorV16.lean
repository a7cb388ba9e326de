/-
  Texts of this claim, joined (part 16). No condition beyond those of the theorems.
-/
import Derived.Test.YthhogcknkimijaaDoorV10
import Derived.Test.YthhogcknkimijaaDoorV15
namespace Go.Proofs.YthhogcknkimijaaDoor
open Go.RowKit
set_option linter.unusedSimpArgs false
set_option linter.unusedVariables false
set_option maxRecDepth 100000
set_option maxHeartbeats 8000000
def K_fmtInt:Con:=⟨[.val (.int .i64),.val (.int .i64)],[⟨.str,true⟩],fun x=>x.2.1=10∧-9223372036854775808≤x.1∧x.1≤9223372036854775807,fun x=>bs (Lib.itoa x.1)⟩
theorem fmtInt_ok:PureT Tryd.prog 52 K_fmtInt:=by
  refine pure_liftG fun ⟨(x:Int),(y:Int),_⟩ hc R w vs hg hv=>?_
  obtain⟨hy,h0,h1⟩:=(show y=10∧-9223372036854775808≤x∧x≤9223372036854775807 from hc)
  subst hy
  obtain⟨us,e,hv⟩:=vrt_sc hv
  obtain⟨us2,e2,hv⟩:=vrt_sc hv
  have e3:=vrt_nil hv
  subst e3 e2
  have e4:=arr_of e
  subst e4
  exact(Tryd.strconv_FormatInt_10 x h0 h1 w (tab10 hg)).mono fun _ _ ⟨he,k,os,hk⟩=>⟨_,he,vr_sc _,obsOk_nil _ _,by rw[hk];exact below_grownS w k os⟩
def T_fmtInt:Tab:=fun f=>if f=52 then some (.p K_fmtInt) else T_l14Ok f
theorem T_fmtInt_ok:TabOk Tryd.prog T_fmtInt:=tabP fmtInt_ok (fnOk_of Tryd.func52 rfl (by decide)) T_l14Ok_ok
attribute [go_sem] T_fmtInt K_fmtInt
def K_decimal:Con:=⟨[.val (.int .i64)],[⟨.str,true⟩],fun x=>-9223372036854775808≤x.1∧x.1≤9223372036854775807,fun x=>bs (Lib.itoa x.1)⟩
theorem decimal_ok:PureT Tryd.prog 28 K_decimal:=by
  refine pure_of_body Tryd.func28 rfl ?_
  have hres:Tryd.f28.results.toList=[.tmp 2]:=rfl
  rintro⟨(n:Int),_⟩ hc hL
  simp only[K_decimal,go_sem] at hL
  simp only[K_decimal,St.init,St.initG,Tryd.ntmps28,go_sem] 
  have hn:-9223372036854775808≤n∧n≤9223372036854775807:=hc
  refine oS fun _ hK1=>?_
  refine oW T_fmtInt_ok ?_
  simp only[go_sem]
  refine hK1 _ ?_
  refine oS fun _ hK2=>?_
  refine oW T_fmtInt_ok ?_
  simp only[go_sem]
  repeat(with_reducible first|refine oA ?_|refine And.intro (by first|exact hn) ?_)
  refine hK2 _ ?_
  refine AWP_ret ?_
  simp only[hres,go_sem]
  first|exact oF|exact oFr
def T_decimal:Tab:=fun f=>if f=28 then some (.p K_decimal) else T_fmtInt f
theorem T_decimal_ok:TabOk Tryd.prog T_decimal:=tabP decimal_ok (fnOk_of Tryd.func28 rfl (by decide)) T_fmtInt_ok
attribute [go_sem] T_decimal K_decimal
def K_implEnvT:Con:=⟨[.val ((.prod (.int .i64) (.prod (.row 48 (.prod (.int .i64) (.int .i64))) (.int .i64))))],[⟨.str,true⟩],fun _=>True,fun x=>bs (envT x.1)⟩
theorem implEnvT_ok:PureT Tryd.prog 9 K_implEnvT:=by
  refine pure_of_body Tryd.func9 rfl ?_
  have hres:Tryd.f9.results.toList=[.tmp 2]:=rfl
  rintro⟨⟨(st:Int),(sg:List (Int × Int)),(rl:Int)⟩,_⟩ hc hL
  simp only[K_implEnvT,go_sem] at hL
  simp only[K_implEnvT,St.init,St.initG,Tryd.ntmps9,go_sem] 
  refine oS fun _ hK1=>?_
  refine oW T_decimal_ok ?_
  simp only[go_sem]
  refine hK1 _ ?_
  refine oS fun _ hK2=>?_
  refine oS fun _ hK3=>?_
  refine oW T_decimal_ok ?_
  simp only[go_sem]
  repeat(with_reducible refine oA ?_)
  refine hK3 _ ?_
  refine oC rfl ?_ ?_
  ·
   intro c0
   refine oS fun _ hK4=>?_
   refine oW T_decimal_ok ?_
   simp only[go_sem]
   refine hK4 _ ?_
   refine AWP_ret ?_
   simp only[hres,go_sem]
   first|exact oF|(refine⟨?_,oF⟩;rw[envT_no c0])
  intro c0
  obtain⟨ha,hst,hrl,hsl⟩:=envB_parts c0
  simp only at ha hst hrl hsl
  obtain⟨hst1,hst2⟩:=inR_iff.1 hst
  obtain⟨hrl1,hrl2⟩:=inR_iff.1 hrl
  have hr5:=itoa_len hrl1 (by omega:rl≤65536)
  have hb1:-9223372036854775808≤st∧st≤9223372036854775807:=⟨by omega,by omega⟩
  have hb2:-9223372036854775808≤rl∧rl≤9223372036854775807:=⟨by omega,by omega⟩
  refine AWP_skip ?_
  simp only[go_sem]
  refine hK2 _ ?_
  refine oS fun _ hK5=>?_
  refine oW T_decimal_ok ?_
  simp only[go_sem]
  repeat(with_reducible first|refine oA ?_|refine And.intro (by first|exact hb1|exact hb2|exact hb3|exact hb4|omega) ?_)
  refine hK5 _ ?_
  refine oS fun _ hK6=>?_
  refine oS fun _ hK7=>?_
  refine oW T_decimal_ok ?_
  simp only[go_sem]
  repeat(with_reducible refine oA ?_)
  refine hK7 _ ?_
  refine AWP_block ?_
  refine AWP_loop_k (ι:={ k:Nat // k≤sg.length }) (fun k=>⟨[zz,.c (.po 116 0),zz,.c (.sc (.string (bs (Lib.itoa st++segsT (sg.take k.1))))),zz,zz,zz,zz,zz,zz,zz,zz,zz,.c (.rd [] 48 ((.prod (.int .i64) (.int .i64))) (sg)),.c (.sc (.int .i64 (sg.length))),.c (.sc (.int .i64 (k.1))),zz,zz,zz,zz,zz,zz,zz,zz,zz,zz,zz,zz,zz,zz,zz,zz,zz,zz,zz,zz,zz],[(116,.box [.sc (.int .i64 (st)),.rd [] 48 ((.prod (.int .i64) (.int .i64))) (sg),.sc (.int .i64 (rl))])]⟩) (fun k=>sg.length - k.1) ⟨0,by simp⟩ ?_ ?_
  ·
   refine oK ?_
   simp (maxSteps:=2000000)only[go_sem]
   all_goals((repeat' refine And.intro ?_ ?_)<;>first|rfl|(congr 1;simp[segsT];done)|(simp[segsT];done))
  rintro⟨k,hk⟩ K8 hL8
  have hT:(Lib.itoa st++segsT (sg.take k)).length≤200:=text_len (by omega) (by omega) ha hsl k
  simp only[List.length_append] at hT
  have hx:k < sg.length→((0≤(sg.getD k ((0,0):Int × Int)).1∧(sg.getD k ((0,0):Int × Int)).1≤65536)∧0≤(sg.getD k ((0,0):Int × Int)).2∧(sg.getD k ((0,0):Int × Int)).2≤65536)∧(Lib.itoa (sg.getD k ((0,0):Int × Int)).1).length≤5∧(Lib.itoa (sg.getD k ((0,0):Int × Int)).2).length≤5∧Lib.itoa st++segsT (sg.take (k+1))=Lib.itoa st++segsT (sg.take k)++([32,62]++Lib.itoa (sg.getD k ((0,0):Int × Int)).2++[58]++Lib.itoa (sg.getD k ((0,0):Int × Int)).1):=fun h=>seg_at ha h st
  refine oS fun _ hK9=>?_
  refine oW T_decimal_ok ?_
  simp only[go_sem]
  refine hK9 _ ?_
  refine oS fun _ hK10=>?_
  refine oC rfl ?_ ?_
  ·
   intro c1
   obtain⟨⟨⟨hx11,hx12⟩,hx21,hx22⟩,hx1,hx2,hx3⟩:=hx (by omega)
   have hb3:-9223372036854775808≤(sg.getD k ((0,0):Int × Int)).1∧(sg.getD k ((0,0):Int × Int)).1≤9223372036854775807:=⟨by omega,by omega⟩
   have hb4:-9223372036854775808≤(sg.getD k ((0,0):Int × Int)).2∧(sg.getD k ((0,0):Int × Int)).2≤9223372036854775807:=⟨by omega,by omega⟩
   refine AWP_skip ?_
   simp only[go_sem]
   refine hK10 _ ?_
   refine oS fun _ hK11=>?_
   refine AWP_block ?_
   refine oS fun _ hK12=>?_
   refine oW T_decimal_ok ?_
   simp only[go_sem]
   repeat(with_reducible refine oA ?_)
   refine hK12 _ ?_
   refine oR T_decimal_ok
     [[],[],[1],[1,2],[1,2,3],[1,2,3,4],[],[6],[1,2,3,6,7],[1,2,3,4,5,6,7,8],[0,1,2,3,4,5,6,7,8,9],[0,1,2,3,4,5,6,7,8,9,10]]
     [[],[],[],[],[],[],[],[],[],[],[],[]]
     [[],[],[],[],[],[],[],[],[],[],[],[]] (by kernel_rfl) (by kernel_rfl) (adrawR_ok (acc:=[]) ?_)
   simp (maxSteps:=2000000)only[List.length_append,List.length_cons,List.length_nil,go_sem]
   repeat(with_reducible first|refine oD ?_|refine And.intro (by first|exact hb1|exact hb2|exact hb3|exact hb4|omega) ?_)
   refine hK11 _ ?_
   refine oW T_decimal_ok ?_
   simp only[go_sem]
   refine hL8 ⟨k+1,by omega⟩ _ (oK ?_) ?_
   ·
    simp (maxSteps:=2000000)only[go_sem]
    all_goals((repeat' refine And.intro ?_ ?_)<;>first|rfl|exact wk (by omega)|(congr 1;rw[hx3];simp only[List.append_assoc,List.cons_append,List.nil_append];done)|(rw[hx3];simp only[List.append_assoc,List.cons_append,List.nil_append];done))
   ·
    first|(simp only[];omega)|omega|(simp;omega)
  intro c1
  refine AWP_exit ?_
  simp only[go_sem]
  refine hK6 _ ?_
  refine oS fun _ hK13=>?_
  refine oW T_decimal_ok ?_
  simp (maxSteps:=2000000)only[List.length_append,List.length_cons,List.length_nil,go_sem]
  repeat(with_reducible first|refine oA ?_|refine And.intro (by first|exact hb1|exact hb2|exact hb3|exact hb4|omega) ?_)
  refine hK13 _ ?_
  refine AWP_ret ?_
  simp only[hres,go_sem]
  first
   | exact oF
   | refine ⟨?_, oF⟩
     rw[envT_ok c0]
     have hk3:sg.take k=sg:=List.take_of_length_le (by omega)
     rw[hk3]
     first|rfl|(simp only[textE,List.append_assoc,List.cons_append,List.nil_append];done)
def T_implEnvT:Tab:=fun f=>if f=9 then some (.p K_implEnvT) else T_decimal f
theorem T_implEnvT_ok:TabOk Tryd.prog T_implEnvT:=tabP implEnvT_ok (fnOk_of Tryd.func9 rfl (by decide)) T_decimal_ok
attribute [go_sem] T_implEnvT K_implEnvT
end Go.Proofs.YthhogcknkimijaaDoor
