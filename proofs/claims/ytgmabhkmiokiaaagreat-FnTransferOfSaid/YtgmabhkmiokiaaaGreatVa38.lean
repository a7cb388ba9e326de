/-
  Texts of this claim, joined (part 38). No condition beyond those of the theorems.
-/
import Derived.Test.YtgmabhkmiokiaaaGreatVa26
import Derived.Test.YtgmabhkmiokiaaaGreatVa34
import Derived.Test.YtgmabhkmiokiaaaGreatVa37
import Derived.Test.YtgmabhkmiokiaaaGreatVa07
import Derived.Test.YtgmabhkmiokiaaaGreatVa14
import Derived.Test.YtgmabhkmiokiaaaGreatVa19
namespace Go.Proofs.YtgmabhkmiokiaaaGreat
open Go.RowKit
set_option linter.unusedSimpArgs false
set_option linter.unusedVariables false
set_option maxRecDepth 100000
set_option maxHeartbeats 8000000
def T_mHn60:Tab:=fun f=>match T_charPoly f with
 | some k=>some k
 | none=>T_implLinOf f
theorem T_mHn60_ok:TabOk Tryz.prog T_mHn60:=tabM T_charPoly_ok T_implLinOf_ok
attribute [go_sem] T_mHn60 T0
def T_mHn61:Tab:=fun f=>match T_mHn60 f with
 | some k=>some k
 | none=>T_implRender f
theorem T_mHn61_ok:TabOk Tryz.prog T_mHn61:=tabM T_mHn60_ok T_implRender_ok
attribute [go_sem] T_mHn61 T0
def K_implTrn:Con:=⟨[.val ((.prod (.int .i64) (.prod (.row 26 (.row 2 (.int .i64))) (.prod (.row 93 (.prod (.int .i64) (.prod (.int .i64) (.prod (.int .i64) (.row 2 (.int .i64)))))) (.row 2 (.int .i64)))))),.val (.int .i64),.val (.int .i64)],[⟨(.prod (.row 2 (.int .i64)) (.row 2 (.int .i64))),true⟩],fun x=>linOkP x.1∧(0≤x.2.1∧x.2.1 < x.1.1)∧(0≤x.2.2.1∧x.2.2.1 < x.1.2.2.2.length),fun x=>trnL (linM (trimP x.1)) x.2.1 x.2.2.1⟩
theorem implTrn_ok:PureT Tryz.prog 18 K_implTrn:=by
  refine pure_of_body Tryz.func18 rfl ?_
  have hres:Tryz.f18.results.toList=[.cell 6 32]:=rfl
  rintro ⟨⟨(pi:Int),(ts:List (List Int)),(ns:List NodeD),(os:List Int)⟩,(ii:Int),(oo:Int),_⟩ hc hL
  simp only[K_implTrn,go_sem] at hL
  simp only[K_implTrn,St.init,St.initG,Tryz.ntmps18,go_sem] 
  obtain ⟨hk,⟨i1,i2⟩,⟨o1,o2⟩⟩:=(show linOkP (pi,ts,ns,os)∧(0≤ii∧ii < pi)∧(0≤oo∧oo < os.length) from hc)
  rcases hX:linM (trimP (pi,ts,ns,os)) with ⟨ni,la,lb,lc,ld⟩
  obtain ⟨hW,ha1,hni,hlo,hsq⟩:=linOk_x hk hX
  have hP:patchB (pi,ts,ns,os)=true:=hk.ok
  have hp4:0≤pi∧pi≤4:=hk.i4
  have ho4:os.length≤4:=hk.o4
  have hdl:(chN la la.length).length=la.length+1:=chN_len _ _
  have hdc:(((chN la la.length).length:Nat):Int)=(la.length:Int)+1:=by omega
  have htn:Int.toNat ((la.length:Int)+1)=la.length+1:=by omega
  obtain ⟨Y,hY⟩ :∃Y,renderL (pi,ts,ns,os) ((List.replicate (Int.toNat pi) ([]:List Int)).set (Int.toNat ii) [1]) (la.length+1)=Y:=⟨_,rfl⟩
  obtain ⟨hYl,hYr⟩:=trn_row hk hX ⟨i1,i2⟩ ⟨o1,o2⟩ _ hY
  have hYl:Y.length=os.length:=hYl
  have hrc:patchB (pi,ts,ns,os)=true∧insOk (pi,ts,ns,os) ((List.replicate (Int.toNat pi) ([]:List Int)).set (Int.toNat ii) [1])∧inR ((la.length:Int)+1) 0 1000000=true:=⟨hP,impI_ok (q:=(pi,ts,ns,os)) hp4.1 ii,inR_t (by omega) (by omega)⟩
  have hcv:inR ((la.length:Int)+1) 0 1000=true∧(chN la la.length).length≤1000:=⟨inR_t (by omega) (by omega),by omega⟩
  have hd1:(chN la la.length).length≤1000:=by omega
  have hc1:(convN (chN la la.length) (rspL (ni,la,lb,lc,ld) ii oo (la.length+1)) (la.length+1)).length≤1000:=by rw [convN_len]; omega
  have hin4:(List.replicate (Int.toNat pi) ([]:List Int)).length=Int.toNat pi:=List.length_replicate
  refine oS fun _ hK1=>?_;refine oW T_mHn61_ok ?_;simp only[go_sem];refine hK1 _ ?_;refine oS fun _ hK2=>?_;refine oW T_mHn61_ok ?_;simp (maxSteps:=2000000)only[List.nodup_cons,List.nodup_nil,List.not_mem_nil,not_false_eq_true,hX,go_sem];repeat (with_reducible first | refine oA ?_ | refine And.intro (by first | exact hP | exact hsq) ?_)
  refine hK2 _ ?_;refine oS fun _ hK3=>?_;refine oW T_mHn61_ok ?_;simp only[List.nodup_cons,List.nodup_nil,List.not_mem_nil,not_false_eq_true,go_sem];repeat (with_reducible first | refine oA ?_ | refine And.intro (by first | omega) ?_)
  refine hK3 _ ?_;refine oS fun _ hK4=>?_;refine oW T_mHn61_ok ?_;simp (maxSteps:=2000000)only[List.nodup_cons,List.nodup_nil,List.not_mem_nil,not_false_eq_true,hin4,go_sem];repeat (with_reducible first | refine oA ?_ | refine And.intro (by first | omega) ?_)
  refine hK4 _ ?_;refine oS fun _ hK5=>?_;refine oW T_mHn61_ok ?_;simp only[hdc,go_sem];repeat (with_reducible refine oA ?_)
  refine hK5 _ ?_;refine oS fun _ hK6=>?_;refine oW T_mHn61_ok ?_;simp (maxSteps:=2000000)only[List.nodup_cons,List.nodup_nil,List.not_mem_nil,not_false_eq_true,htn,hY,hYr,hYl,go_sem];repeat (with_reducible first | refine oA ?_ | refine And.intro (by first | exact hrc | omega) ?_)
  refine hK6 _ ?_;refine oS fun _ hK7=>?_;refine oW T_mHn61_ok ?_;simp (maxSteps:=2000000)only[List.nodup_cons,List.nodup_nil,List.not_mem_nil,not_false_eq_true,htn,hdc,hYr,go_sem];repeat (with_reducible first | refine oA ?_ | refine And.intro (by first | exact hcv | exact hc1 | exact hd1) ?_)
  refine hK7 _ ?_;refine AWP_ret ?_;simp only[hres,go_sem];first | exact oF | (refine ⟨?_,oF⟩; first | exact ⟨rfl,rfl⟩ | rfl)
def T_implTrn:Tab:=fun f=>if f=18 then some (.p K_implTrn) else T_mHn61 f
theorem T_implTrn_ok:TabOk Tryz.prog T_implTrn:=tabP implTrn_ok (fnOk_of Tryz.func18 rfl (by decide)) T_mHn61_ok
attribute [go_sem] T_implTrn K_implTrn
def K_implTrnOf:Con:=⟨[.val ((.prod (.int .i64) (.prod (.row 26 (.row 2 (.int .i64))) (.prod (.row 93 (.prod (.int .i64) (.prod (.int .i64) (.prod (.int .i64) (.row 2 (.int .i64)))))) (.row 2 (.int .i64)))))),.val (.int .i64),.val (.int .i64)],[⟨(.prod (.row 2 (.int .i64)) (.row 2 (.int .i64))),true⟩,⟨.int .i64,true⟩],fun _=>True,fun x=>trnR x.1 x.2.1 x.2.2.1⟩
theorem implTrnOf_ok:PureT Tryz.prog 7 K_implTrnOf:=by
  refine pure_of_body Tryz.func7 rfl ?_
  have hres:Tryz.f7.results.toList=[.cell 6 32,.tmp 7]:=rfl
  rintro ⟨⟨(pi:Int),(ts:List (List Int)),(ns:List NodeD),(os:List Int)⟩,(ii:Int),(oo:Int),_⟩ hc hL
  simp only[K_implTrnOf,go_sem] at hL
  simp only[K_implTrnOf,St.init,St.initG,Tryz.ntmps7,go_sem] 
  refine oS fun _ hK1=>?_;refine oW T_implTrn_ok ?_;simp only[go_sem];refine hK1 _ ?_;refine oS fun _ hK2=>?_;refine oS fun _ hK3=>?_;refine oW T_implTrn_ok ?_;simp only[List.nodup_cons,List.nodup_nil,List.not_mem_nil,not_false_eq_true,codeL_one,go_sem];repeat (with_reducible refine oA ?_)
  refine hK3 _ ?_;refine oS fun _ hK4=>?_;refine oW T_implTrn_ok ?_;simp only[go_sem];refine hK4 _ ?_;refine oC rfl ?_ ?_
  ·
   intro c0;refine oS fun _ hK5=>?_;refine oW T_implTrn_ok ?_;simp only[go_sem];repeat (with_reducible refine oA ?_)
   refine hK5 _ ?_;refine AWP_ret ?_;simp only[hres,go_sem]
   first
    | exact oF
    | refine ⟨?_,oF⟩
      have hl1:¬ linCode (pi,ts,ns,os)=0:=by assumption
      first | (rw [trnR_f hl1]; exact ⟨rfl,rfl⟩) | (rw [trnR_f hl1]; done)
  intro c0;have hl0:linCode (pi,ts,ns,os)=0:=by first | assumption | omega
  have hk:=linOk_of hl0
  have hp4:0≤pi∧pi≤4:=hk.i4
  have ho4:os.length≤4:=hk.o4
  have hw1:IntKind.i64.wrap (pi - 1)=pi - 1:=wrapI (by omega)
  have hw2:IntKind.i64.wrap ((os.length:Int) - 1)=(os.length:Int) - 1:=wrapI (by omega)
  refine AWP_skip ?_;simp only[go_sem];refine hK2 _ ?_;refine oS fun _ hK6=>?_;refine oS fun _ hK7=>?_;refine oW T_implTrn_ok ?_;simp (maxSteps:=2000000)only[List.nodup_cons,List.nodup_nil,List.not_mem_nil,not_false_eq_true,hw1,hw2,go_sem];repeat' (with_reducible first | refine oA ?_ | refine oT (fun g4=>?_) (fun g4=>?_) | refine oE (fun g4=>?_) (fun g4=>?_))
  all_goals
   refine hK7 _ ?_;refine AWP_cond rfl ?_ ?_
   ·
    intro c1;try simp only[zA,zB,zC,zD,zE,zF,zG,zH,zI] at c1
    all_goals
     refine oS fun _ hK8=>?_;refine oW T_implTrn_ok ?_;simp only[go_sem];repeat (with_reducible refine oA ?_)
     refine hK8 _ ?_;refine AWP_ret ?_;simp only[hres,go_sem]
     first
      | exact oF
      | refine ⟨?_,oF⟩
        have hKf:(inR ii 0 (pi - 1) && inR oo 0 ((os.length:Int) - 1))=false:=by clear hK1 hK2 hK3 hK4 hK6 hK7 hK8; simp_all
        first | (rw [trnR_2 hl0 hKf]; exact ⟨rfl,rfl⟩) | (rw [trnR_2 hl0 hKf]; done)
   ·
    intro c1;try simp only[zA,zB,zC,zD,zE,zF,zG,zH,zI] at c1
    all_goals
     have hKt:(inR ii 0 (pi - 1) && inR oo 0 ((os.length:Int) - 1))=true:=by clear hK1 hK2 hK3 hK4 hK6 hK7; simp_all
     obtain ⟨k1,k2⟩:=Bool.and_eq_true_iff.1 hKt
     obtain ⟨i1,i2⟩:=inR_iff.1 k1
     obtain ⟨o1,o2⟩:=inR_iff.1 k2
     have hTc:linOkP (pi,ts,ns,os)∧(0≤ii∧ii < pi)∧(0≤oo∧oo < os.length):=⟨hk,⟨i1,by omega⟩,o1,by omega⟩
     refine AWP_skip ?_;simp only[go_sem];refine hK6 _ ?_;refine oS fun _ hK9=>?_;refine oW T_implTrn_ok ?_;simp (maxSteps:=2000000)only[List.nodup_cons,List.nodup_nil,List.not_mem_nil,not_false_eq_true,go_sem];repeat (with_reducible first | refine oA ?_ | refine And.intro (by first | exact hTc) ?_)
     refine hK9 _ ?_;refine AWP_ret ?_;simp only[hres,go_sem];first | exact oF | (refine ⟨?_,oF⟩; first | (rw [trnR_0 hl0 hKt]; exact ⟨rfl,rfl⟩) | (rw [trnR_0 hl0 hKt]; done))
def T_implTrnOf:Tab:=fun f=>if f=7 then some (.p K_implTrnOf) else T_implTrn f
theorem T_implTrnOf_ok:TabOk Tryz.prog T_implTrnOf:=tabP implTrnOf_ok (fnOk_of Tryz.func7 rfl (by decide)) T_implTrn_ok
attribute [go_sem] T_implTrnOf K_implTrnOf
set_option maxRecDepth 100000
set_option maxHeartbeats 4000000
def T_l12Alike:Tab:=T_l07Map
theorem T_l12Alike_ok:TabOk Tryz.prog T_l12Alike:=T_l07Map_ok
attribute [go_sem] T_l12Alike
def polyB (p:List Int):Bool:=decide (1≤p.length) && decide (p.length≤65) && smps p && (decide (p.length=1) || decide (¬ p.getD (p.length - 1) 0=0))
def trB (t:TrD):Bool:=polyB t.1 && polyB t.2 && decide (t.2.getD 0 0=1)
theorem polyB_trim {l:List Int} (h:l.length≤65) (hs:smps l=true):polyB (trimL l)=true:=by
 have h1:=trimL_len l
 have h2:=trimL_smp hs
 unfold polyB;rw [decide_eq_true h1.1,decide_eq_true (show (trimL l).length≤65 by omega),h2]
 rcases trimL_last l with h | h
 · rw [decide_eq_true h]; rfl
 · rw [decide_eq_true h]; simp
theorem polyB_parts {p:List Int} (h:polyB p=true):1≤p.length∧p.length≤65∧smps p=true:=by
 unfold polyB at h;simp only[Bool.and_eq_true,decide_eq_true_eq] at h
 exact ⟨h.1.1.1,h.1.1.2,h.1.2⟩
theorem trnL_ok {x:LinD} (h:x.2.1.length≤24) (i o:Int):trB (trnL x i o)=true:=by
 unfold trB trnL;have hd:(trimL (chN x.2.1 x.2.1.length)).getD 0 0=1:=by rw [trimL_at,chN_1]
 simp only[hd];rw [polyB_trim (by rw [convN_len]; omega) (convN_smp _ _ _),polyB_trim (by rw [chN_len]; omega) (chN_smp _ _)]
 rfl
theorem trB_len {t:TrD} (h:trB t=true):(1≤t.1.length∧t.1.length≤65∧smps t.1=true)∧(1≤t.2.length∧t.2.length≤65∧smps t.2=true)∧t.2.getD 0 0=1:=by
 unfold trB at h;simp only[Bool.and_eq_true,decide_eq_true_eq] at h
 exact ⟨polyB_parts h.1.1,polyB_parts h.1.2,h.2⟩
structure two (p q:PatchD):Prop where
 ok:patchB p=true
 ok':patchB q=true
 lp:linB p=true
 lq:linB q=true
 i:p.1=q.1
 o:p.2.2.2.length=q.2.2.2.length
set_option maxRecDepth 100000
set_option maxHeartbeats 8000000
def T_mHn90:Tab:=fun f=>match T_implTrnOf f with
 | some k=>some k
 | none=>T_l12Alike f
theorem T_mHn90_ok:TabOk Tryz.prog T_mHn90:=tabM T_implTrnOf_ok T_l12Alike_ok
attribute [go_sem] T_mHn90 T0
def K_isPoly:Con:=⟨[.val ((.row 2 (.int .i64)))],[⟨.bool,true⟩],fun _=>True,fun x=>polyB x.1⟩
theorem isPoly_ok:PureT Tryz.prog 97 K_isPoly:=by
  refine pure_of_body Tryz.func97 rfl ?_
  have hres:Tryz.f97.results.toList=[.tmp 2]:=rfl
  rintro ⟨(xs:List Int),_⟩ hc hL
  simp only[K_isPoly,go_sem] at hL
  obtain lxs:=hL
  simp only[K_isPoly,St.init,St.initG,Tryz.ntmps97,go_sem] 
  have hwx:IntKind.i64.wrap ((xs.length:Int) - 1)=(xs.length:Int) - 1:=wrapI (by omega)
  have hwt:((xs.length:Int) - 1).toNat=xs.length - 1:=by omega
  refine oS fun _ hK1=>?_;refine oW T_mHn90_ok ?_;simp only[go_sem];refine hK1 _ ?_;refine oS fun _ hK2=>?_;refine oW T_mHn90_ok ?_;simp only[go_sem];refine hK2 _ ?_;refine oS fun _ hK3=>?_;refine oW T_mHn90_ok ?_;simp (maxSteps:=2000000)only[hwx,hwt,go_sem];repeat' (with_reducible first | refine oA ?_ | refine And.intro (by first | omega) ?_ | refine oT (fun g2=>?_) (fun g2=>?_) | refine oE (fun g2=>?_) (fun g2=>?_))
  all_goals
   refine hK3 _ ?_;refine AWP_ret ?_;simp only[hres,go_sem]
   first
    | exact oF
    | refine ⟨?_,oF⟩
      clear hK1 hK2 hK3;unfold polyB;have z1:((xs.length:Int)≥1)↔1≤xs.length:=by omega
      have z2:((xs.length:Int)≤65)↔xs.length≤65:=by omega
      have z3:((xs.length:Int)=1)↔xs.length=1:=by omega
      try simp only[z1,z2,z3] at *
      clear hwx hwt;first | rfl | (simp_all; done) | (cases hs:smps xs<;>simp_all; done) | (by_cases q1:xs.length=1<;>cases hs:smps xs<;>simp_all; done) | (clear hL hc; by_cases q0:1≤xs.length<;>by_cases q2:xs.length≤65<;>by_cases q1:xs.length=1<;>cases hs:smps xs<;>simp [*] at *<;>done) | (by_cases q0:1≤xs.length<;>by_cases q2:xs.length≤65<;>by_cases q1:xs.length=1<;>cases hs:smps xs<;>simp_all<;>omega)
def T_isPoly:Tab:=fun f=>if f=97 then some (.p K_isPoly) else T_mHn90 f
theorem T_isPoly_ok:TabOk Tryz.prog T_isPoly:=tabP isPoly_ok (fnOk_of Tryz.func97 rfl (by decide)) T_mHn90_ok
attribute [go_sem] T_isPoly K_isPoly
def K_arePolys:Con:=⟨[.val ((.row 26 (.row 2 (.int .i64))))],[⟨.bool,true⟩],fun _=>True,fun x=>x.1.all polyB⟩
theorem arePolys_ok:PureT Tryz.prog 47 K_arePolys:=by
  refine pure_of_body Tryz.func47 rfl ?_
  have hres:Tryz.f47.results.toList=[.tmp 2]:=rfl
  rintro ⟨(aa:List (List Int)),_⟩ hc hL
  simp only[K_arePolys,go_sem] at hL
  obtain ⟨laa,laa2⟩:=hL;simp only[K_arePolys,St.init,St.initG,Tryz.ntmps47,go_sem] 
  refine oS fun _ hK1=>?_;refine oW T_isPoly_ok ?_;simp only[go_sem];refine hK1 _ ?_;refine oS fun _ hK2=>?_;refine oS fun _ hK3=>?_;refine oW T_isPoly_ok ?_;simp only[go_sem];refine hK3 _ ?_;refine AWP_block ?_;refine AWP_loop_k (ι:={ k:Nat // k≤aa.length∧(aa.take k).all polyB=true }) (fun k=>⟨[zz,zz,zz,zz,zz,.c (.rd [] 26 (.row 2 (.int .i64)) (aa)),.c (.sc (.int .i64 (aa.length))),.c (.sc (.int .i64 (k.1))),zz,zz,zz,zz,zz,zz,zz],[]⟩) (fun k=>aa.length - k.1) ⟨0,by simp⟩ ?_ ?_
  ·
   refine oK ?_;simp (maxSteps:=2000000)only[go_sem];all_goals (first | rfl | ((repeat' refine And.intro ?_ ?_)<;>first | rfl | simp))
  rintro ⟨k,hk,hp⟩ K4 hL4
  refine oS fun _ hK5=>?_;refine oW T_isPoly_ok ?_;simp only[go_sem];refine hK5 _ ?_;refine oS fun _ hK6=>?_;refine oC rfl ?_ ?_
  ·
   intro c0;refine AWP_skip ?_;simp only[go_sem];refine hK6 _ ?_;refine oS fun _ hK7=>?_;refine AWP_block ?_;refine oS fun _ hK8=>?_;refine oW T_isPoly_ok ?_;simp only[go_sem];repeat (with_reducible refine oA ?_)
   refine hK8 _ ?_;refine oS fun _ hK9=>?_;refine oW T_isPoly_ok ?_;simp only[go_sem];repeat (with_reducible refine oA ?_)
   refine hK9 _ ?_;refine oC rfl ?_ ?_
   ·
    intro c1;refine oS fun _ hK10=>?_;refine oW T_isPoly_ok ?_;simp only[go_sem];refine hK10 _ ?_;refine AWP_ret ?_;simp only[hres,go_sem];first | exact oF | (refine ⟨?_,oF⟩; exact (all_stop (k:=k) (d:=[]) (by omega) (by first | assumption | (clear hp; clear hK1 hK2 hK3 hL4 hK5 hK6 hK7 hK8 hK9 hK10; simp_all))).symm)
   intro c1;refine AWP_skip ?_;simp only[go_sem];refine hK7 _ ?_;refine oW T_isPoly_ok ?_;simp only[go_sem];refine hL4 ⟨k+1,by omega,all_next (d:=[]) (by omega) hp (by first | assumption | (clear hK1 hK2 hK3 hL4 hK5 hK6 hK7 hK8 hK9; simp_all))⟩ _ (oK ?_) ?_
   ·
    simp (maxSteps:=2000000)only[go_sem];first | rfl | exact wk (by omega)
   ·
    first | (simp only[]; omega) | omega | (simp; omega)
  intro c0;refine AWP_exit ?_;simp only[go_sem];refine hK2 _ ?_;refine oS fun _ hK11=>?_;refine oW T_isPoly_ok ?_;simp only[go_sem];refine hK11 _ ?_;refine AWP_ret ?_;simp only[hres,go_sem];first | exact oF | (refine ⟨?_,oF⟩; exact (all_done hp (by omega)).symm)
def T_arePolys:Tab:=fun f=>if f=47 then some (.p K_arePolys) else T_isPoly f
theorem T_arePolys_ok:TabOk Tryz.prog T_arePolys:=tabP arePolys_ok (fnOk_of Tryz.func47 rfl (by decide)) T_isPoly_ok
attribute [go_sem] T_arePolys K_arePolys
def K_isTrn:Con:=⟨[.val ((.prod (.row 2 (.int .i64)) (.row 2 (.int .i64))))],[⟨.bool,true⟩],fun x=>1≤x.1.2.length,fun x=>trB x.1⟩
theorem isTrn_ok:PureT Tryz.prog 22 K_isTrn:=by
  refine pure_of_body Tryz.func22 rfl ?_
  have hres:Tryz.f22.results.toList=[.tmp 2]:=rfl
  rintro ⟨⟨(xa:List Int),(xb:List Int)⟩,_⟩ hc hL
  simp only[K_isTrn,go_sem] at hL
  simp only[K_isTrn,St.init,St.initG,Tryz.ntmps22,go_sem] 
  have hc1:1≤xb.length:=hc
  refine oS fun _ hK1=>?_;refine oW T_arePolys_ok ?_;simp only[go_sem];refine hK1 _ ?_;refine oS fun _ hK2=>?_;refine oW T_arePolys_ok ?_;simp (maxSteps:=2000000)only[List.nodup_cons,List.nodup_nil,List.not_mem_nil,not_false_eq_true,go_sem];repeat' (with_reducible first | refine oA ?_ | refine And.intro (by first | omega) ?_ | refine oT (fun g1=>?_) (fun g1=>?_) | refine oE (fun g1=>?_) (fun g1=>?_))
  all_goals
   refine hK2 _ ?_;refine AWP_ret ?_;simp only[hres,go_sem]
   first
    | exact oF
    | refine ⟨?_,oF⟩
      clear hK1 hK2;unfold trB;first | rfl | (cases ha:polyB xa<;>cases hb:polyB xb<;>simp_all; done)
def T_isTrn:Tab:=fun f=>if f=22 then some (.p K_isTrn) else T_arePolys f
theorem T_isTrn_ok:TabOk Tryz.prog T_isTrn:=tabP isTrn_ok (fnOk_of Tryz.func22 rfl (by decide)) T_arePolys_ok
attribute [go_sem] T_isTrn K_isTrn
def T_implEqLin:Tab:=T_isTrn
theorem T_implEqLin_ok:TabOk Tryz.prog T_implEqLin:=T_isTrn_ok
attribute [go_sem] T_implEqLin
end Go.Proofs.YtgmabhkmiokiaaaGreat
