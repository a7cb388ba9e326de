/-
  Texts of this claim, joined (part 25). No condition beyond those of the theorems.
-/
import Derived.Test.YthhogcknkimijaaDoorV16
import Derived.Test.YthhogcknkimijaaDoorV24
namespace Go.Proofs.YthhogcknkimijaaDoor
open Go.RowKit
set_option linter.unusedSimpArgs false
set_option linter.unusedVariables false
set_option maxRecDepth 100000
set_option maxHeartbeats 4000000
def K_floorDiv:Con:=⟨[.val (.int .i64),.val (.int .i64)],[⟨.int .i64,true⟩],fun x=>0 < x.2.1∧-9223372036854775808≤x.1∧x.1≤9223372036854775807,fun x=>divF2 x.1 x.2.1⟩
theorem floorDiv_ok:PureT Tryd.prog 73 K_floorDiv:=by
  refine pure_of_body Tryd.func73 rfl ?_
  have hres:Tryd.f73.results.toList=[.tmp 4]:=rfl
  rintro⟨(x:Int),(y:Int),_⟩ hc hL
  simp only[K_floorDiv,go_sem] at hL
  simp only[K_floorDiv,St.init,St.initG,Tryd.ntmps73,go_sem] 
  obtain⟨hy,hx1,hx2⟩:=(show 0 < y∧-9223372036854775808≤x∧x≤9223372036854775807 from hc)
  obtain⟨hr1,hr2,hr3⟩:=tdiv_rng hy hx1 hx2
  have hw:IntKind.i64.wrap (x.tdiv y)=x.tdiv y:=wrapI ⟨hr1,hr2⟩
  refine oS fun _ hK1=>?_
  refine oW T_l14Ok_ok ?_
  simp only[go_sem]
  refine hK1 _ ?_
  refine oS fun _ hK2=>?_
  refine oW T_l14Ok_ok ?_
  simp only[hw,go_sem]
  repeat(with_reducible refine oA ?_)
  refine hK2 _ ?_
  refine oS fun _ hK3=>?_
  refine oS fun _ hK4=>?_
  refine oW T_l14Ok_ok ?_
  simp only[go_sem]
  repeat(with_reducible refine oA ?_)
  refine hK4 _ ?_
  refine oC rfl ?_ ?_
  ·
   intro c0
   have hw2:IntKind.i64.wrap (x.tdiv y - 1)=x.tdiv y - 1:=wrapI ⟨hr3 c0,by omega⟩
   refine oW T_l14Ok_ok ?_
   simp only[hw2,go_sem]
   refine hK3 _ ?_
   refine oS fun _ hK5=>?_
   refine oW T_l14Ok_ok ?_
   simp only[go_sem]
   refine hK5 _ ?_
   refine AWP_ret ?_
   simp only[hres,go_sem]
   first|exact oF|(refine⟨?_,oF⟩;first|exact divF2_lo hy c0|exact divF2_hi hy c0)
  intro c0
  refine AWP_skip ?_
  simp only[go_sem]
  refine hK3 _ ?_
  refine oS fun _ hK6=>?_
  refine oW T_l14Ok_ok ?_
  simp only[go_sem]
  refine hK6 _ ?_
  refine AWP_ret ?_
  simp only[hres,go_sem]
  first|exact oF|(refine⟨?_,oF⟩;first|exact divF2_lo hy c0|exact divF2_hi hy c0)
def T_floorDiv:Tab:=fun f=>if f=73 then some (.p K_floorDiv) else T_l14Ok f
theorem T_floorDiv_ok:TabOk Tryd.prog T_floorDiv:=tabP floorDiv_ok (fnOk_of Tryd.func73 rfl (by decide)) T_l14Ok_ok
attribute [go_sem] T_floorDiv K_floorDiv
def K_zeros:Con:=⟨[.val (.int .i64)],[⟨(.row 2 (.int .i64)),true⟩],fun x=>inR x.1 0 1099511627776=true,fun x=>List.replicate (Int.toNat x.1) 0⟩
theorem zeros_ok:PureT Tryd.prog 62 K_zeros:=by
  refine pure_of_body Tryd.func62 rfl ?_
  have hres:Tryd.f62.results.toList=[.tmp 2]:=rfl
  rintro⟨(x:Int),_⟩ hc hL
  simp only[K_zeros,go_sem] at hL
  simp only[K_zeros,St.init,St.initG,Tryd.ntmps62,go_sem] 
  obtain⟨h1,h2⟩:=inR_iff.1 (show inR x _ _=true from hc)
  refine oS fun _ hK1=>?_
  refine oW T_floorDiv_ok ?_
  simp only[go_sem]
  refine hK1 _ ?_
  refine oS fun _ hK2=>?_
  refine oW T_floorDiv_ok ?_
  simp only[List.nodup_nil,go_sem]
  repeat(with_reducible refine oA ?_)
  refine hK2 _ ?_
  refine AWP_ret ?_
  simp only[hres,go_sem]
  first|exact oF|exact oFr
def T_zeros:Tab:=fun f=>if f=62 then some (.p K_zeros) else T_floorDiv f
theorem T_zeros_ok:TabOk Tryd.prog T_zeros:=tabP zeros_ok (fnOk_of Tryd.func62 rfl (by decide)) T_floorDiv_ok
attribute [go_sem] T_zeros K_zeros
def K_lineAt:Con:=⟨[.val (.int .i64),.val (.int .i64),.val (.int .i64),.val (.int .i64)],[⟨.int .i64,true⟩],fun x=>lnOk x.1 x.2.1 x.2.2.1 x.2.2.2.1,fun x=>lineE x.1 x.2.1 x.2.2.1 x.2.2.2.1⟩
theorem lineAt_ok:PureT Tryd.prog 63 K_lineAt:=by
  refine pure_of_body Tryd.func63 rfl ?_
  have hres:Tryd.f63.results.toList=[.tmp 8]:=rfl
  rintro⟨(f:Int),(t:Int),(l:Int),(a:Int),_⟩ hc hL
  simp only[K_lineAt,go_sem] at hL
  simp only[K_lineAt,St.init,St.initG,Tryd.ntmps63,go_sem] 
  have hln:lnOk f t l a:=hc
  have hp:=ln_prod hln
  obtain⟨hf,ht,hl,ha⟩:=id hln
  refine oS fun _ hK1=>?_
  refine oW T_zeros_ok ?_
  simp only[go_sem]
  refine hK1 _ ?_
  refine oS fun _ hK2=>?_
  refine oS fun _ hK3=>?_
  refine oW T_zeros_ok ?_
  simp only[go_sem]
  refine hK3 _ ?_
  refine oC rfl ?_ ?_
  ·
   intro c0
   refine oS fun _ hK4=>?_
   refine oW T_zeros_ok ?_
   simp only[go_sem]
   refine hK4 _ ?_
   refine AWP_ret ?_
   simp only[hres,go_sem]
   first|exact oF|(refine⟨?_,oF⟩;exact(lineE_t c0).symm)
  intro c0
  obtain⟨hd1,hd2,hd3⟩:=ln_div hln c0
  have hd4:0 < l∧-9223372036854775808≤(t - f) * a∧(t - f) * a≤9223372036854775807:=⟨hd1,by omega,by omega⟩
  have hw1:IntKind.i64.wrap (t - f)=t - f:=wrapI (by omega)
  have hw2:IntKind.i64.wrap ((t - f) * a)=(t - f) * a:=wrapI (by omega)
  have hw3:IntKind.i64.wrap (f+divF2 ((t - f) * a) l)=f+divF2 ((t - f) * a) l:=wrapI (by omega)
  refine AWP_skip ?_
  simp only[go_sem]
  refine hK2 _ ?_
  refine oS fun _ hK5=>?_
  refine oW T_zeros_ok ?_
  simp (maxSteps:=2000000)only[hw1,hw2,hw3,go_sem]
  repeat(with_reducible first|refine oA ?_|refine And.intro (by first|exact hd4) ?_)
  refine hK5 _ ?_
  refine AWP_ret ?_
  simp only[hres,go_sem]
  first|exact oF|(refine⟨?_,oF⟩;exact(lineE_f c0).symm)
def T_lineAt:Tab:=fun f=>if f=63 then some (.p K_lineAt) else T_zeros f
theorem T_lineAt_ok:TabOk Tryd.prog T_lineAt:=tabP lineAt_ok (fnOk_of Tryd.func63 rfl (by decide)) T_zeros_ok
attribute [go_sem] T_lineAt K_lineAt
def K_isTime:Con:=⟨[.val (.int .i64)],[⟨.bool,true⟩],fun _=>True,fun x=>inR x.1 0 1000000000⟩
theorem isTime_ok:PureT Tryd.prog 41 K_isTime:=by
  refine pure_of_body Tryd.func41 rfl ?_
  have hres:Tryd.f41.results.toList=[.tmp 2]:=rfl
  rintro⟨(x:Int),_⟩ hc hL
  simp only[K_isTime,go_sem] at hL
  simp only[K_isTime,St.init,St.initG,Tryd.ntmps41,go_sem] 
  refine oS fun _ hK1=>?_
  refine oW T_lineAt_ok ?_
  simp only[go_sem]
  refine hK1 _ ?_
  refine oS fun _ hK2=>?_
  refine oW T_lineAt_ok ?_
  simp only[go_sem]
  repeat(with_reducible refine oA ?_)
  refine hK2 _ ?_
  refine AWP_ret ?_
  simp only[hres,go_sem]
  first|exact oF|exact oFr
def T_isTime:Tab:=fun f=>if f=41 then some (.p K_isTime) else T_lineAt f
theorem T_isTime_ok:TabOk Tryd.prog T_isTime:=tabP isTime_ok (fnOk_of Tryd.func41 rfl (by decide)) T_lineAt_ok
attribute [go_sem] T_isTime K_isTime
def K_held:Con:=⟨[.val ((.prod (.int .i64) (.prod (.row 48 (.prod (.int .i64) (.int .i64))) (.int .i64)))),.val (.int .i64)],[⟨.int .i64,true⟩],fun x=>envB x.1=true∧0≤x.2.1∧x.2.1≤1000000000,fun x=>heldG x.1.1 x.1.2.1 x.2.1⟩
theorem held_ok:PureT Tryd.prog 46 K_held:=by
  refine pure_of_body Tryd.func46 rfl ?_
  have hres:Tryd.f46.results.toList=[.tmp 4]:=rfl
  rintro⟨⟨(st:Int),(sg:List (Int × Int)),(rl:Int)⟩,(a:Int),_⟩ hc hL
  simp only[K_held,go_sem] at hL
  simp only[K_held,St.init,St.initG,Tryd.ntmps46,go_sem] 
  obtain⟨he,ha1,ha2⟩:=(show envB (st,sg,rl)=true∧0≤a∧a≤1000000000 from hc)
  obtain⟨hsa,hsb,hsc,hsd⟩:=envB_parts he
  simp only at hsa hsb hsc hsd
  obtain⟨hst1,hst2⟩:=inR_iff.1 hsb
  obtain⟨hrl1,hrl2⟩:=inR_iff.1 hsc
  refine oS fun _ hK1=>?_
  refine oW T_isTime_ok ?_
  simp only[go_sem]
  refine hK1 _ ?_
  refine oS fun _ hK2=>?_
  refine oW T_isTime_ok ?_
  simp only[go_sem]
  repeat(with_reducible refine oA ?_)
  refine hK2 _ ?_
  refine oS fun _ hK3=>?_
  refine oS fun _ hK4=>?_
  refine oW T_isTime_ok ?_
  simp only[go_sem]
  repeat(with_reducible refine oA ?_)
  refine hK4 _ ?_
  refine AWP_block ?_
  refine AWP_loop_k (ι:={ p:Nat × Int × Int // HeldI st sg a p }) (fun k=>⟨[zz,.c (.sc (.int .i64 (k.1.2.1))),zz,zz,zz,.c (.sc (.int .i64 (k.1.2.2))),zz,zz,zz,zz,zz,.c (.rd [] 48 ((.prod (.int .i64) (.int .i64))) (sg)),.c (.sc (.int .i64 (sg.length))),.c (.sc (.int .i64 (k.1.1))),zz,zz,zz,zz,zz,zz,zz,zz,zz,zz,zz,zz,zz,zz,zz,zz,zz,zz,zz,zz,zz,zz],[]⟩) (fun k=>sg.length - k.1.1) ⟨(0,a,st),by simp,rfl,⟨ha1,ha2⟩,hst1,hst2⟩ ?_ ?_
  ·
   refine oK ?_
   simp (maxSteps:=2000000)only[go_sem]
   all_goals((repeat' refine And.intro ?_ ?_)<;>first|rfl|exact True.intro|exact wk (by omega)|omega|(rw[wrapI (by omega)];omega)|(congr 1;done)|(simp;done))
  rintro⟨⟨k,a1,l1⟩,hp⟩ K5 hL5
  obtain⟨hp1,hp2,hp3,hp4⟩:=id hp
  simp only at hp1 hp2 hp3 hp4
  have hx:k < sg.length→_:=fun h=>segs_at hsa h
  refine oS fun _ hK6=>?_
  refine oW T_isTime_ok ?_
  simp only[go_sem]
  refine hK6 _ ?_
  refine oS fun _ hK7=>?_
  refine oC rfl ?_ ?_
  ·
   intro c0
   obtain⟨⟨hx1,hx2⟩,hx3,hx4⟩:=hx (by omega)
   refine AWP_skip ?_
   simp only[go_sem]
   refine hK7 _ ?_
   refine oS fun _ hK8=>?_
   refine AWP_block ?_
   refine oS fun _ hK9=>?_
   refine oW T_isTime_ok ?_
   simp only[go_sem]
   repeat(with_reducible refine oA ?_)
   refine hK9 _ ?_
   refine oS fun _ hK10=>?_
   refine oS fun _ hK11=>?_
   refine oW T_isTime_ok ?_
   simp only[go_sem]
   repeat(with_reducible refine oA ?_)
   refine hK11 _ ?_
   refine oC rfl ?_ ?_
   ·
    intro c1
    have hlk:lnOk l1 (sg.getD k ((0,0):Int × Int)).2 (sg.getD k ((0,0):Int × Int)).1 a1:=⟨hp4,⟨hx3,hx4⟩,⟨hx1,hx2⟩,hp3.1,by omega⟩
    refine oS fun _ hK12=>?_
    refine oW T_isTime_ok ?_
    simp (maxSteps:=2000000)only[go_sem]
    repeat(with_reducible first|refine oA ?_|refine And.intro (by first|exact hlk) ?_)
    refine hK12 _ ?_
    refine AWP_ret ?_
    simp only[hres,go_sem]
    first|exact oF|(refine⟨?_,oF⟩;rw[hp2];exact(heldG_t (by omega) c1).symm)
   intro c1
   have hw:IntKind.i64.wrap (a1 - (sg.getD k ((0,0):Int × Int)).1)=a1 - (sg.getD k ((0,0):Int × Int)).1:=wrapI (by omega)
   refine AWP_skip ?_
   simp only[go_sem]
   refine hK10 _ ?_
   refine oS fun _ hK13=>?_
   refine oW T_isTime_ok ?_
   simp (maxSteps:=2000000)only[hw,go_sem]
   repeat(with_reducible refine oA ?_)
   refine hK13 _ ?_
   refine oW T_isTime_ok ?_
   simp only[go_sem]
   repeat(with_reducible refine oA ?_)
   refine hK8 _ ?_
   refine oW T_isTime_ok ?_
   simp only[go_sem]
   refine hL5 ⟨(k+1,a1 - (sg.getD k ((0,0):Int × Int)).1,(sg.getD k ((0,0):Int × Int)).2),hp.next hsa (by omega) (Int.not_lt.2 c1)⟩ _ (oK ?_) ?_
   ·
    simp (maxSteps:=2000000)only[go_sem]
    all_goals((repeat' refine And.intro ?_ ?_)<;>first|rfl|exact True.intro|exact wk (by omega)|omega|(rw[wrapI (by omega)];omega)|(congr 1;done)|(simp;done))
   ·
    first|(simp only[];omega)|omega|(simp;omega)
  intro c0
  refine AWP_exit ?_
  simp only[go_sem]
  refine hK3 _ ?_
  refine oS fun _ hK14=>?_
  refine oW T_isTime_ok ?_
  simp only[go_sem]
  refine hK14 _ ?_
  refine AWP_ret ?_
  simp only[hres,go_sem]
  first|exact oF|(refine⟨?_,oF⟩;rw[hp2];exact(heldG_end (by omega)).symm)
def T_held:Tab:=fun f=>if f=46 then some (.p K_held) else T_isTime f
theorem T_held_ok:TabOk Tryd.prog T_held:=tabP held_ok (fnOk_of Tryd.func46 rfl (by decide)) T_isTime_ok
attribute [go_sem] T_held K_held
def K_levelAt:Con:=⟨[.val ((.prod (.int .i64) (.prod (.row 48 (.prod (.int .i64) (.int .i64))) (.int .i64)))),.val (.int .i64),.val (.int .i64)],[⟨.int .i64,true⟩],fun x=>timeOk x.1 x.2.1 x.2.2.1,fun x=>levelE x.1 x.2.1 x.2.2.1⟩
theorem levelAt_ok:PureT Tryd.prog 45 K_levelAt:=by
  refine pure_of_body Tryd.func45 rfl ?_
  have hres:Tryd.f45.results.toList=[.tmp 6]:=rfl
  rintro⟨⟨(st:Int),(sg:List (Int × Int)),(rl:Int)⟩,(g:Int),(a:Int),_⟩ hc hL
  simp only[K_levelAt,go_sem] at hL
  simp only[K_levelAt,St.init,St.initG,Tryd.ntmps45,go_sem] 
  have htk:timeOk (st,sg,rl) g a:=hc
  obtain⟨he,hg,ha⟩:=id htk
  have hw:IntKind.i64.wrap (a - g)=a - g:=wrapI (by omega)
  refine oS fun _ hK1=>?_
  refine oW T_held_ok ?_
  simp only[go_sem]
  refine hK1 _ ?_
  refine oS fun _ hK2=>?_
  refine oS fun _ hK3=>?_
  refine oW T_held_ok ?_
  simp only[go_sem]
  refine hK3 _ ?_
  refine oC rfl ?_ ?_
  ·
   intro c0
   refine oS fun _ hK4=>?_
   refine oW T_held_ok ?_
   simp only[go_sem]
   repeat(with_reducible first|refine oA ?_|refine And.intro (by first|exact⟨he,ha.1,ha.2⟩) ?_)
   refine hK4 _ ?_
   refine AWP_ret ?_
   simp only[hres,go_sem]
   first|exact oF|(refine⟨?_,oF⟩;exact(levelE_1 (e:=(st,sg,rl)) c0).symm)
  intro c0
  refine AWP_skip ?_
  simp only[go_sem]
  refine hK2 _ ?_
  refine oS fun _ hK5=>?_
  refine oS fun _ hK6=>?_
  refine oW T_held_ok ?_
  simp (maxSteps:=2000000)only[hw,go_sem]
  repeat(with_reducible refine oA ?_)
  refine hK6 _ ?_
  refine oC rfl ?_ ?_
  ·
   intro c1
   refine oS fun _ hK7=>?_
   refine oW T_held_ok ?_
   simp only[go_sem]
   refine hK7 _ ?_
   refine AWP_ret ?_
   simp only[hres,go_sem]
   first|exact oF|(refine⟨?_,oF⟩;exact(levelE_2 (e:=(st,sg,rl)) (Int.not_lt.2 c0) c1).symm)
  intro c1
  have hlk:lnOk (heldG st sg g) 0 rl (a - g):=lev_ln htk (Int.not_lt.2 c0) (Int.not_lt.2 c1)
  refine AWP_skip ?_
  simp only[go_sem]
  refine hK5 _ ?_
  refine oS fun _ hK8=>?_
  refine oR T_held_ok
    [[],[],[0,1],[],[3],[],[],[5,6],[0,1,2,3,4,5,6,7],[0,1,2,3,4,5,6,7,8]]
    [[],[],[],[],[],[],[],[],[],[]]
    [[],[],[],[],[],[],[],[],[],[]] (by kernel_rfl) (by kernel_rfl) (adrawR_ok (acc:=[]) ?_)
  simp (maxSteps:=2000000)only[hw,go_sem]
  repeat(with_reducible first|refine oD ?_|refine And.intro (by first|exact⟨he,hg.1,hg.2⟩|exact hlk) ?_)
  refine hK8 _ ?_
  refine AWP_ret ?_
  simp only[hres,go_sem]
  first|exact oF|(refine⟨?_,oF⟩;exact(levelE_3 (e:=(st,sg,rl)) (Int.not_lt.2 c0) (Int.not_lt.2 c1)).symm)
def T_levelAt:Tab:=fun f=>if f=45 then some (.p K_levelAt) else T_held f
theorem T_levelAt_ok:TabOk Tryd.prog T_levelAt:=tabP levelAt_ok (fnOk_of Tryd.func45 rfl (by decide)) T_held_ok
attribute [go_sem] T_levelAt K_levelAt
def K_levels:Con:=⟨[.val ((.prod (.int .i64) (.prod (.row 48 (.prod (.int .i64) (.int .i64))) (.int .i64)))),.val (.int .i64),.val (.int .i64)],[⟨(.row 2 (.int .i64)),true⟩],fun x=>timeOk x.1 x.2.1 0∧0≤x.2.2.1∧x.2.2.1≤4000,fun x=>lvlL x.1 x.2.1 x.2.2.1.toNat⟩
theorem levels_ok:PureT Tryd.prog 43 K_levels:=by
  refine pure_of_body Tryd.func43 rfl ?_
  have hres:Tryd.f43.results.toList=[.tmp 6]:=rfl
  rintro⟨⟨(st:Int),(sg:List (Int × Int)),(rl:Int)⟩,(g:Int),(n:Int),_⟩ hc hL
  simp only[K_levels,go_sem] at hL
  simp only[K_levels,St.init,St.initG,Tryd.ntmps43,go_sem] 
  obtain⟨htk,hn1,hn2⟩:=(show timeOk (st,sg,rl) g 0∧0≤n∧n≤4000 from hc)
  obtain⟨he,hg,_⟩:=id htk
  have hlv:=lvlL_len (st,sg,rl) g n.toNat
  have hrp:List.replicate n.toNat (0:Int)=fillT 0 (lvlL (st,sg,rl) g n.toNat) 0:=by rw[fillT_zero,hlv]
  refine oS fun _ hK1=>?_
  refine oW T_levelAt_ok ?_
  simp only[go_sem]
  refine hK1 _ ?_
  refine oS fun _ hK2=>?_
  refine oW T_levelAt_ok ?_
  simp only[List.nodup_cons,List.nodup_nil,List.not_mem_nil,not_false_eq_true,go_sem]
  repeat(with_reducible first|refine oA ?_|refine And.intro (by first|exact inR_t (by omega) (by omega)) ?_)
  refine hK2 _ ?_
  refine oS fun _ hK3=>?_
  refine oS fun _ hK4=>?_
  refine oW T_levelAt_ok ?_
  simp only[List.length_replicate,go_sem]
  refine hK4 _ ?_
  refine AWP_block ?_
  refine AWP_loop_k (ι:={ k:Nat // k≤n.toNat }) (fun k=>⟨[zz,.c (.sc (.int .i64 (g))),zz,.c (.po 148 0),zz,zz,zz,.c (.ow 9001),zz,zz,zz,zz,.c (.sc (.int .i64 (n))),.c (.sc (.int .i64 (k.1))),zz,zz,zz,zz,zz,zz,zz,zz,zz,zz,zz],[(148,.box [.sc (.int .i64 (st)),.rd [] 48 ((.prod (.int .i64) (.int .i64))) (sg),.sc (.int .i64 (rl))]),(9001,.row 2 (.int .i64) (fillT 0 (lvlL (st,sg,rl) g n.toNat) k.1) [])]⟩) (fun k=>n.toNat - k.1) ⟨0,by simp⟩ ?_ ?_
  ·
   refine oK ?_
   simp (maxSteps:=2000000)only[go_sem]
   all_goals((repeat' refine And.intro ?_ ?_)<;>first|rfl|omega|exact hrp|(congr 1;exact hrp)|(congr 1;done)|(simp;done))
  rintro⟨k,hk⟩ K5 hL5
  have hfl:(fillT 0 (lvlL (st,sg,rl) g n.toNat) k).length=n.toNat:=by rw[fillT_len (by omega),hlv]
  have hft:k < n.toNat→(fillT 0 (lvlL (st,sg,rl) g n.toNat) k).set k (levelE (st,sg,rl) g (k:Int))=fillT 0 (lvlL (st,sg,rl) g n.toNat) (k+1):=fun h=>by rw[←fillT_set (0:Int) (show k < (lvlL (st,sg,rl) g n.toNat).length by omega),lvlL_at h]
  refine oS fun _ hK6=>?_
  refine oW T_levelAt_ok ?_
  simp only[go_sem]
  refine hK6 _ ?_
  refine oS fun _ hK7=>?_
  refine oC rfl ?_ ?_
  ·
   intro c0
   have hlk:timeOk (st,sg,rl) g (k:Int):=⟨he,hg,by omega,by omega⟩
   have hb1:0≤(k:Int)∧(k:Int) < (n.toNat:Int):=⟨by omega,by omega⟩
   have hb2:k < n.toNat:=by omega
   refine AWP_skip ?_
   simp only[go_sem]
   refine hK7 _ ?_
   refine oS fun _ hK8=>?_
   refine AWP_block ?_
   refine oS fun _ hK9=>?_
   refine oW T_levelAt_ok ?_
   simp only[go_sem]
   refine hK9 _ ?_
   refine oW T_levelAt_ok ?_
   simp (maxSteps:=2000000)only[hfl,go_sem]
   repeat(with_reducible first|refine oA ?_|refine And.intro (by first|exact hlk|exact hb1|exact hb2|omega) ?_)
   refine hK8 _ ?_
   refine oW T_levelAt_ok ?_
   simp only[go_sem]
   refine hL5 ⟨k+1,by omega⟩ _ (oK ?_) ?_
   ·
    simp (maxSteps:=2000000)only[go_sem]
    all_goals((repeat' refine And.intro ?_ ?_)<;>first|rfl|exact wk (by omega)|exact hft (by omega)|(congr 1;exact hft (by omega))|omega)
   ·
    first|(simp only[];omega)|omega|(simp;omega)
  intro c0
  refine AWP_exit ?_
  simp only[go_sem]
  refine hK3 _ ?_
  refine oS fun _ hK10=>?_
  refine oW T_levelAt_ok ?_
  simp only[go_sem]
  refine hK10 _ ?_
  refine AWP_ret ?_
  simp only[hres,go_sem]
  first
   | exact oF
   | refine ⟨?_, oF⟩
     have hk3:fillT 0 (lvlL (st,sg,rl) g n.toNat) k=(lvlL (st,sg,rl) g n.toNat):=fillT_all (by omega)
     rw[hk3];first|rfl|done
def T_levels:Tab:=fun f=>if f=43 then some (.p K_levels) else T_levelAt f
theorem T_levels_ok:TabOk Tryd.prog T_levels:=tabP levels_ok (fnOk_of Tryd.func43 rfl (by decide)) T_levelAt_ok
attribute [go_sem] T_levels K_levels
def K_endOf:Con:=⟨[.val ((.prod (.int .i64) (.prod (.row 48 (.prod (.int .i64) (.int .i64))) (.int .i64)))),.val (.int .i64)],[⟨.int .i64,true⟩],fun x=>envB x.1=true∧0≤x.2.1∧x.2.1≤4000,fun x=>endI x.1 x.2.1 (x.2.1+x.1.2.2).toNat⟩
theorem endOf_ok:PureT Tryd.prog 44 K_endOf:=by
  refine pure_of_body Tryd.func44 rfl ?_
  have hres:Tryd.f44.results.toList=[.tmp 4]:=rfl
  rintro⟨⟨(st:Int),(sg:List (Int × Int)),(rl:Int)⟩,(g:Int),_⟩ hc hL
  simp only[K_endOf,go_sem] at hL
  simp only[K_endOf,St.init,St.initG,Tryd.ntmps44,go_sem] 
  obtain⟨he,hg1,hg2⟩:=(show envB (st,sg,rl)=true∧0≤g∧g≤4000 from hc)
  obtain⟨hsa,hsb,hsc,hsd⟩:=envB_parts he
  simp only at hsa hsb hsc hsd
  obtain⟨hst1,hst2⟩:=inR_iff.1 hsb
  obtain⟨hrl1,hrl2⟩:=inR_iff.1 hsc
  have hw:IntKind.i64.wrap (g+rl)=g+rl:=wrapI (by omega)
  refine oS fun _ hK1=>?_
  refine oW T_levels_ok ?_
  simp only[go_sem]
  refine hK1 _ ?_
  refine oS fun _ hK2=>?_
  refine oW T_levels_ok ?_
  simp (maxSteps:=2000000)only[hw,go_sem]
  repeat(with_reducible refine oA ?_)
  refine hK2 _ ?_
  refine oS fun _ hK3=>?_
  refine AWP_block ?_
  refine AWP_loop_k (ι:={ k:Nat // (k:Int)≤g+rl∧endI (st,sg,rl) g (g+rl).toNat=endI (st,sg,rl) g k }) (fun k=>⟨[zz,.c (.sc (.int .i64 (g))),.c (.po 132 0),zz,zz,.c (.sc (.int .i64 (k.1))),zz,zz,zz,zz,zz,zz,zz,zz,zz,zz,zz,zz,zz,zz,zz,zz,zz],[(132,.box [.sc (.int .i64 (st)),.rd [] 48 ((.prod (.int .i64) (.int .i64))) (sg),.sc (.int .i64 (rl))])]⟩) (fun k=>k.1) ⟨(g+rl).toNat,by omega,rfl⟩ ?_ ?_
  ·
   refine oK ?_
   simp (maxSteps:=2000000)only[go_sem]
   all_goals((repeat' refine And.intro ?_ ?_)<;>first|rfl|omega|(congr 1;done))
  rintro⟨k,hk,hp⟩ K4 hL4
  have hwk:IntKind.i64.wrap ((k:Int) - 1)=(k:Int) - 1:=wrapI (by omega)
  have htk:0 < (k:Int)→timeOk (st,sg,rl) g ((k:Int) - 1):=fun h=>⟨he,⟨hg1,by omega⟩,by omega,by omega⟩
  refine oS fun _ hK5=>?_
  refine oS fun _ hK6=>?_
  refine oW T_levels_ok ?_
  simp (maxSteps:=2000000)only[hwk,go_sem]
  repeat' (with_reducible first|refine oA ?_|refine And.intro (by first|exact htk (by omega)) ?_|refine oT (fun g2=>?_) (fun g2=>?_)|refine oE (fun g2=>?_) (fun g2=>?_))
  all_goals
   refine hK6 _ ?_
   refine AWP_cond rfl ?_ ?_
   ·
    intro c0
    try simp only[zA,zB,zC,zD,zE,zF,zG,zH,zI] at c0
    all_goals
     have hz:levelE (st,sg,rl) g ((k:Int) - 1)=0:=by first|assumption|(clear hK1 hK2 hK3 hL4 hK5 hK6;simp_all;done)
     have hk0:0 < k:=by first|omega|(clear hK1 hK2 hK3 hL4 hK5 hK6;simp_all;omega)
     refine AWP_skip ?_
     simp only[go_sem]
     refine hK5 _ ?_
     refine AWP_block ?_
     refine oW T_levels_ok ?_
     simp only[hwk,go_sem]
     refine hL4 ⟨k - 1,by omega,hp.trans (endI_t (by omega) hz)⟩ _ (oK ?_) ?_
     ·
      simp (maxSteps:=2000000)only[go_sem]
      all_goals((repeat' refine And.intro ?_ ?_)<;>first|rfl|omega|(congr 1;done))
     ·
      first|(simp only[];omega)|omega|(simp;omega)
   ·
    intro c0
    try simp only[zA,zB,zC,zD,zE,zF,zG,zH,zI] at c0
    all_goals
     refine AWP_exit ?_
     simp only[go_sem]
     refine hK3 _ ?_
     refine oS fun _ hK7=>?_
     refine oW T_levels_ok ?_
     simp only[go_sem]
     refine hK7 _ ?_
     refine AWP_ret ?_
     simp only[hres,go_sem]
     first
      | exact oF
      | refine ⟨?_, oF⟩
        rw[hp]
        by_cases hk0:0 < k
        · rw[endI_f hk0 (by first|assumption|(intro e;clear hK1 hK2 hK3 hL4 hK5 hK6 hK7;simp_all;done)|(intro e;simp_all;done))]
        · rw[endI_0 hk0]
def T_endOf:Tab:=fun f=>if f=44 then some (.p K_endOf) else T_levels f
theorem T_endOf_ok:TabOk Tryd.prog T_endOf:=tabP endOf_ok (fnOk_of Tryd.func44 rfl (by decide)) T_levels_ok
attribute [go_sem] T_endOf K_endOf
def K_rndE:Con:=⟨[.val ((.prod (.int .i64) (.prod (.row 48 (.prod (.int .i64) (.int .i64))) (.int .i64)))),.val (.int .i64),.val (.int .i64)],[⟨(.row 2 (.int .i64)),true⟩,⟨.int .i64,true⟩],fun _=>True,fun x=>rndE x.1 x.2.1 x.2.2.1⟩
theorem rndE_ok:PureT Tryd.prog 18 K_rndE:=by
  refine pure_of_body Tryd.func18 rfl ?_
  have hres:Tryd.f18.results.toList=[.tmp 6,.tmp 7]:=rfl
  rintro⟨⟨(st:Int),(sg:List (Int × Int)),(rl:Int)⟩,(g:Int),(n:Int),_⟩ hc hL
  simp only[K_rndE,go_sem] at hL
  simp only[K_rndE,St.init,St.initG,Tryd.ntmps18,go_sem] 
  refine oS fun _ hK1=>?_
  refine oW T_endOf_ok ?_
  simp only[go_sem]
  refine hK1 _ ?_
  refine oS fun _ hK2=>?_
  refine oS fun _ hK3=>?_
  refine oW T_endOf_ok ?_
  simp only[go_sem]
  repeat(with_reducible refine oA ?_)
  refine hK3 _ ?_
  refine oC rfl ?_ ?_
  ·
   intro c0
   refine oS fun _ hK4=>?_
   refine oW T_endOf_ok ?_
   simp only[go_sem]
   refine hK4 _ ?_
   refine AWP_ret ?_
   simp only[hres,go_sem]
   first|exact oF|(refine⟨?_,oF⟩;rw[rndE_1 (e:=(st,sg,rl)) c0])
  intro c0
  have he:envB (st,sg,rl)=true:=by assumption
  refine AWP_skip ?_
  simp only[go_sem]
  refine hK2 _ ?_
  refine oS fun _ hK5=>?_
  refine oS fun _ hK6=>?_
  refine oW T_endOf_ok ?_
  simp (maxSteps:=2000000)only[go_sem]
  repeat' (with_reducible first|refine oA ?_|refine oT (fun g3=>?_) (fun g3=>?_)|refine oE (fun g3=>?_) (fun g3=>?_))
  all_goals
   refine hK6 _ ?_
   refine AWP_cond rfl ?_ ?_
   ·
    intro c1
    try simp only[zA,zB,zC,zD,zE,zF,zG,zH,zI] at c1
    all_goals
     refine oS fun _ hK7=>?_
     refine oW T_endOf_ok ?_
     simp only[go_sem]
     refine hK7 _ ?_
     refine AWP_ret ?_
     simp only[hres,go_sem]
     first
      | exact oF
      | refine ⟨?_, oF⟩
        have hq:(inR g 0 1000000000 && inR n 0 4000)=false:=by first|assumption|(rw[show inR g 0 1000000000=false by assumption];rfl)|(rw[show inR n 0 4000=false by assumption,Bool.and_false])
        rw[rndE_2 (e:=(st,sg,rl)) he hq]
   ·
    intro c1
    try simp only[zA,zB,zC,zD,zE,zF,zG,zH,zI] at c1
    all_goals
     refine AWP_skip ?_
     simp only[go_sem]
     refine hK5 _ ?_
     refine oS fun _ hK8=>?_
     have hq:(inR g 0 1000000000 && inR n 0 4000)=true:=by first|assumption|(rw[show inR g 0 1000000000=true by assumption,show inR n 0 4000=true by assumption];rfl)
     obtain⟨b1,b2⟩:=inR_iff.1 (Bool.and_eq_true _ _ ▸ hq:_∧_).1
     obtain⟨b3,b4⟩:=inR_iff.1 (Bool.and_eq_true _ _ ▸ hq:_∧_).2
     have hcc:timeOk (st,sg,rl) g 0∧0≤n∧n≤4000:=⟨⟨he,⟨b1,b2⟩,by omega,by omega⟩,b3,b4⟩
     refine oW T_endOf_ok ?_
     simp (maxSteps:=2000000)only[go_sem]
     repeat(with_reducible first|refine oA ?_|refine And.intro (by first|exact hcc) ?_)
     refine hK8 _ ?_
     refine AWP_ret ?_
     simp only[hres,go_sem]
     first|exact oF|(refine⟨?_,oF⟩;rw[rndE_0 (e:=(st,sg,rl)) he hq])
def T_rndE:Tab:=fun f=>if f=18 then some (.p K_rndE) else T_endOf f
theorem T_rndE_ok:TabOk Tryd.prog T_rndE:=tabP rndE_ok (fnOk_of Tryd.func18 rfl (by decide)) T_endOf_ok
attribute [go_sem] T_rndE K_rndE
def K_endE_:Con:=⟨[.val ((.prod (.int .i64) (.prod (.row 48 (.prod (.int .i64) (.int .i64))) (.int .i64)))),.val (.int .i64)],[⟨.int .i64,true⟩,⟨.int .i64,true⟩],fun _=>True,fun x=>endR x.1 x.2.1⟩
theorem endE__ok:PureT Tryd.prog 19 K_endE_:=by
  refine pure_of_body Tryd.func19 rfl ?_
  have hres:Tryd.f19.results.toList=[.tmp 4,.tmp 5]:=rfl
  rintro⟨⟨(st:Int),(sg:List (Int × Int)),(rl:Int)⟩,(g:Int),_⟩ hc hL
  simp only[K_endE_,go_sem] at hL
  simp only[K_endE_,St.init,St.initG,Tryd.ntmps19,go_sem] 
  refine oS fun _ hK1=>?_
  refine oW T_rndE_ok ?_
  simp only[go_sem]
  refine hK1 _ ?_
  refine oS fun _ hK2=>?_
  refine oS fun _ hK3=>?_
  refine oW T_rndE_ok ?_
  simp only[go_sem]
  repeat(with_reducible refine oA ?_)
  refine hK3 _ ?_
  refine oC rfl ?_ ?_
  ·
   intro c0
   refine oS fun _ hK4=>?_
   refine oW T_rndE_ok ?_
   simp only[go_sem]
   refine hK4 _ ?_
   refine AWP_ret ?_
   simp only[hres,go_sem]
   first|exact oF|(refine⟨?_,oF⟩;rw[endR_1 (e:=(st,sg,rl)) c0])
  intro c0
  have he:envB (st,sg,rl)=true:=by assumption
  refine AWP_skip ?_
  simp only[go_sem]
  refine hK2 _ ?_
  refine oS fun _ hK5=>?_
  refine oS fun _ hK6=>?_
  refine oW T_rndE_ok ?_
  simp only[go_sem]
  repeat(with_reducible refine oA ?_)
  refine hK6 _ ?_
  refine oC rfl ?_ ?_
  ·
   intro c1
   refine oS fun _ hK7=>?_
   refine oW T_rndE_ok ?_
   simp only[go_sem]
   refine hK7 _ ?_
   refine AWP_ret ?_
   simp only[hres,go_sem]
   first
    | exact oF
    | refine ⟨?_, oF⟩
      have hq:inR g 0 4000=false:=by first|assumption|(rw[show inR g 0 4000=false by assumption];rfl)|(rw[show inR g 0 4000=false by assumption,Bool.and_false])
      rw[endR_2 (e:=(st,sg,rl)) he hq]
  intro c1
  refine AWP_skip ?_
  simp only[go_sem]
  refine hK5 _ ?_
  refine oS fun _ hK8=>?_
  have hq:inR g 0 4000=true:=by first|assumption|(rw[show inR g 0 4000=true by assumption,show inR g 0 4000=true by assumption];rfl)
  obtain⟨b1,b2⟩:=inR_iff.1 hq
  refine oW T_rndE_ok ?_
  simp (maxSteps:=2000000)only[go_sem]
  repeat(with_reducible first|refine oA ?_|refine And.intro (by first|exact⟨he,b1,b2⟩) ?_)
  refine hK8 _ ?_
  refine AWP_ret ?_
  simp only[hres,go_sem]
  first|exact oF|(refine⟨?_,oF⟩;rw[endR_0 (e:=(st,sg,rl)) he hq])
def T_endE_:Tab:=fun f=>if f=19 then some (.p K_endE_) else T_rndE f
theorem T_endE__ok:TabOk Tryd.prog T_endE_:=tabP endE__ok (fnOk_of Tryd.func19 rfl (by decide)) T_rndE_ok
attribute [go_sem] T_endE_ K_endE_
def K_levE:Con:=⟨[.val ((.prod (.int .i64) (.prod (.row 48 (.prod (.int .i64) (.int .i64))) (.int .i64)))),.val (.int .i64),.val (.int .i64)],[⟨.int .i64,true⟩,⟨.int .i64,true⟩],fun _=>True,fun x=>levR x.1 x.2.1 x.2.2.1⟩
theorem levE_ok:PureT Tryd.prog 20 K_levE:=by
  refine pure_of_body Tryd.func20 rfl ?_
  have hres:Tryd.f20.results.toList=[.tmp 6,.tmp 7]:=rfl
  rintro⟨⟨(st:Int),(sg:List (Int × Int)),(rl:Int)⟩,(g:Int),(n:Int),_⟩ hc hL
  simp only[K_levE,go_sem] at hL
  simp only[K_levE,St.init,St.initG,Tryd.ntmps20,go_sem] 
  refine oS fun _ hK1=>?_
  refine oW T_endE__ok ?_
  simp only[go_sem]
  refine hK1 _ ?_
  refine oS fun _ hK2=>?_
  refine oS fun _ hK3=>?_
  refine oW T_endE__ok ?_
  simp only[go_sem]
  repeat(with_reducible refine oA ?_)
  refine hK3 _ ?_
  refine oC rfl ?_ ?_
  ·
   intro c0
   refine oS fun _ hK4=>?_
   refine oW T_endE__ok ?_
   simp only[go_sem]
   refine hK4 _ ?_
   refine AWP_ret ?_
   simp only[hres,go_sem]
   first|exact oF|(refine⟨?_,oF⟩;rw[levR_1 (e:=(st,sg,rl)) c0])
  intro c0
  have he:envB (st,sg,rl)=true:=by assumption
  refine AWP_skip ?_
  simp only[go_sem]
  refine hK2 _ ?_
  refine oS fun _ hK5=>?_
  refine oS fun _ hK6=>?_
  refine oW T_endE__ok ?_
  simp (maxSteps:=2000000)only[go_sem]
  repeat' (with_reducible first|refine oA ?_|refine oT (fun g3=>?_) (fun g3=>?_)|refine oE (fun g3=>?_) (fun g3=>?_))
  all_goals
   refine hK6 _ ?_
   refine AWP_cond rfl ?_ ?_
   ·
    intro c1
    try simp only[zA,zB,zC,zD,zE,zF,zG,zH,zI] at c1
    all_goals
     refine oS fun _ hK7=>?_
     refine oW T_endE__ok ?_
     simp only[go_sem]
     refine hK7 _ ?_
     refine AWP_ret ?_
     simp only[hres,go_sem]
     first
      | exact oF
      | refine ⟨?_, oF⟩
        have hq:(inR g 0 1000000000 && inR n 0 1000000000)=false:=by first|assumption|(rw[show inR g 0 1000000000=false by assumption];rfl)|(rw[show inR n 0 1000000000=false by assumption,Bool.and_false])
        rw[levR_2 (e:=(st,sg,rl)) he hq]
   ·
    intro c1
    try simp only[zA,zB,zC,zD,zE,zF,zG,zH,zI] at c1
    all_goals
     refine AWP_skip ?_
     simp only[go_sem]
     refine hK5 _ ?_
     refine oS fun _ hK8=>?_
     have hq:(inR g 0 1000000000 && inR n 0 1000000000)=true:=by first|assumption|(rw[show inR g 0 1000000000=true by assumption,show inR n 0 1000000000=true by assumption];rfl)
     obtain⟨b1,b2⟩:=inR_iff.1 (Bool.and_eq_true _ _ ▸ hq:_∧_).1
     obtain⟨b3,b4⟩:=inR_iff.1 (Bool.and_eq_true _ _ ▸ hq:_∧_).2
     have hcc:timeOk (st,sg,rl) g n:=⟨he,⟨b1,b2⟩,b3,b4⟩
     refine oW T_endE__ok ?_
     simp (maxSteps:=2000000)only[go_sem]
     repeat(with_reducible first|refine oA ?_|refine And.intro (by first|exact hcc) ?_)
     refine hK8 _ ?_
     refine AWP_ret ?_
     simp only[hres,go_sem]
     first|exact oF|(refine⟨?_,oF⟩;rw[levR_0 (e:=(st,sg,rl)) he hq])
def T_levE:Tab:=fun f=>if f=20 then some (.p K_levE) else T_endE_ f
theorem T_levE_ok:TabOk Tryd.prog T_levE:=tabP levE_ok (fnOk_of Tryd.func20 rfl (by decide)) T_endE__ok
attribute [go_sem] T_levE K_levE
def K_hldE:Con:=⟨[.val ((.prod (.int .i64) (.prod (.row 48 (.prod (.int .i64) (.int .i64))) (.int .i64)))),.val (.int .i64)],[⟨.int .i64,true⟩,⟨.int .i64,true⟩],fun _=>True,fun x=>hldR x.1 x.2.1⟩
theorem hldE_ok:PureT Tryd.prog 21 K_hldE:=by
  refine pure_of_body Tryd.func21 rfl ?_
  have hres:Tryd.f21.results.toList=[.tmp 4,.tmp 5]:=rfl
  rintro⟨⟨(st:Int),(sg:List (Int × Int)),(rl:Int)⟩,(n:Int),_⟩ hc hL
  simp only[K_hldE,go_sem] at hL
  simp only[K_hldE,St.init,St.initG,Tryd.ntmps21,go_sem] 
  refine oS fun _ hK1=>?_
  refine oW T_levE_ok ?_
  simp only[go_sem]
  refine hK1 _ ?_
  refine oS fun _ hK2=>?_
  refine oS fun _ hK3=>?_
  refine oW T_levE_ok ?_
  simp only[go_sem]
  repeat(with_reducible refine oA ?_)
  refine hK3 _ ?_
  refine oC rfl ?_ ?_
  ·
   intro c0
   refine oS fun _ hK4=>?_
   refine oW T_levE_ok ?_
   simp only[go_sem]
   refine hK4 _ ?_
   refine AWP_ret ?_
   simp only[hres,go_sem]
   first|exact oF|(refine⟨?_,oF⟩;rw[hldR_1 (e:=(st,sg,rl)) c0])
  intro c0
  have he:envB (st,sg,rl)=true:=by assumption
  refine AWP_skip ?_
  simp only[go_sem]
  refine hK2 _ ?_
  refine oS fun _ hK5=>?_
  refine oS fun _ hK6=>?_
  refine oW T_levE_ok ?_
  simp only[go_sem]
  repeat(with_reducible refine oA ?_)
  refine hK6 _ ?_
  refine oC rfl ?_ ?_
  ·
   intro c1
   refine oS fun _ hK7=>?_
   refine oW T_levE_ok ?_
   simp only[go_sem]
   refine hK7 _ ?_
   refine AWP_ret ?_
   simp only[hres,go_sem]
   first
    | exact oF
    | refine ⟨?_, oF⟩
      have hq:inR n 0 1000000000=false:=by first|assumption|(rw[show inR n 0 1000000000=false by assumption];rfl)|(rw[show inR n 0 1000000000=false by assumption,Bool.and_false])
      rw[hldR_2 (e:=(st,sg,rl)) he hq]
  intro c1
  refine AWP_skip ?_
  simp only[go_sem]
  refine hK5 _ ?_
  refine oS fun _ hK8=>?_
  have hq:inR n 0 1000000000=true:=by first|assumption|(rw[show inR n 0 1000000000=true by assumption,show inR n 0 1000000000=true by assumption];rfl)
  obtain⟨b1,b2⟩:=inR_iff.1 hq
  refine oW T_levE_ok ?_
  simp (maxSteps:=2000000)only[go_sem]
  repeat(with_reducible first|refine oA ?_|refine And.intro (by first|exact⟨he,b1,b2⟩) ?_)
  refine hK8 _ ?_
  refine AWP_ret ?_
  simp only[hres,go_sem]
  first|exact oF|(refine⟨?_,oF⟩;rw[hldR_0 (e:=(st,sg,rl)) he hq])
def T_hldE:Tab:=fun f=>if f=21 then some (.p K_hldE) else T_levE f
theorem T_hldE_ok:TabOk Tryd.prog T_hldE:=tabP hldE_ok (fnOk_of Tryd.func21 rfl (by decide)) T_levE_ok
attribute [go_sem] T_hldE K_hldE
end Go.Proofs.YthhogcknkimijaaDoor
