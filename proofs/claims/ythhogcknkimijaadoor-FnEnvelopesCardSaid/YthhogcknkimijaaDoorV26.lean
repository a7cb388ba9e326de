/-
  Texts of this claim, joined (part 26). No condition beyond those of the theorems.
-/
import Derived.Test.YthhogcknkimijaaDoorV24
import Derived.Test.YthhogcknkimijaaDoorV02
namespace Go.Proofs.YthhogcknkimijaaDoor
open Go.RowKit
set_option linter.unusedSimpArgs false
set_option linter.unusedVariables false
set_option maxRecDepth 100000
set_option maxHeartbeats 4000000
def K_next:GCon where
  ps:=[.po 0]
  os:=[.box [.rd ((.row 5 (.int .u8))),.rd (.int .i64),.rd (.int .u64)]]
  c:=fun x=>srcOk 1 (x.2.1.1,x.2.1.2.1,x.2.1.2.2.1)
  r:=fun x=>.c (.sc (.int .i64 ((nextD (x.2.1.1,x.2.1.2.1,x.2.1.2.2.1)).1)))
  o:=fun x=>[(30,.box [.rd [] 5 (.int .u8) ((nextD (x.2.1.1,x.2.1.2.1,x.2.1.2.2.1)).2.1),.sc (.int .i64 ((nextD (x.2.1.1,x.2.1.2.1,x.2.1.2.2.1)).2.2.1)),.sc (.int .u64 ((nextD (x.2.1.1,x.2.1.2.1,x.2.1.2.2.1)).2.2.2))])]
  ok:=by
    rintro⟨⟨_,_⟩,⟨⟨(cd:List Int),(pt:Int),(sd:Int),_⟩,_⟩⟩
    exact⟨rfl,rfl,by decide⟩
theorem next_ok:GenT Tryd.prog 72 K_next:=by
  refine gen_of_body Tryd.func72 rfl ?_
  have hres:Tryd.f72.results.toList=[.tmp 2]:=rfl
  rintro⟨⟨_,_⟩,⟨⟨(cd:List Int),(pt:Int),(sd:Int),_⟩,_⟩⟩ hc hL hO
  simp only[K_next,go_sem] at hL
  simp only[K_next,go_sem] at hO
  simp only[K_next,St.init,St.initG,Tryd.ntmps72,go_sem] 
  have hs0:srcOk 1 (cd,pt,sd):=hc
  have hp0:0≤pt:=hs0.2.1
  have hp1:pt+1≤4611686018427387904:=hs0.2.2
  have hwp:IntKind.i64.wrap (pt+1)=pt+1:=wrapI (by omega)
  refine oS fun _ hK1=>?_
  refine oW T0_ok ?_
  simp only[go_sem]
  refine hK1 _ ?_
  refine oS fun _ hK2=>?_
  refine oW T0_ok ?_
  simp only[go_sem]
  refine hK2 _ ?_
  refine oS fun _ hK3=>?_
  refine oS fun _ hK4=>?_
  refine oR T0_ok
    [[],[0],[0,1],[0,1,2],[],[4],[4,5],[4,5,6],[4,5,6,7],[0,1,2,3,4,5,6,7,8]]
    [[],[],[],[],[],[],[],[],[],[]]
    [[],[],[],[],[],[],[],[],[],[]] (by kernel_rfl) (by kernel_rfl) (adrawR_ok (acc:=[]) ?_)
  simp (maxSteps:=2000000)only[go_sem]
  repeat(with_reducible refine oD ?_)
  refine hK4 _ ?_
  refine oC rfl ?_ ?_
  ·
   intro c0
   have hb:byteD (cd,pt,sd)=IntKind.i64.wrap (cd.getD pt.toNat 0):=by simp only[byteD,decide_eq_true (show pt < (cd.length:Int) from c0)]
   refine oR T0_ok
     [[],[0],[0,1],[0,1,2],[],[4],[4,5],[4,5,6],[0,1,2,3,4,5,6,7],[0,1,2,3,4,5,6,7,8],[0,1,2,3,4,5,6,7,8,9],[0,1,2,3,4,5,6,7,8,9,10]]
     [[],[],[],[],[],[],[],[],[],[],[],[]]
     [[],[],[],[],[],[],[],[],[],[],[],[]] (by kernel_rfl) (by kernel_rfl) (adrawR_ok (acc:=[]) ?_)
   simp (maxSteps:=2000000)only[go_sem]
   repeat(with_reducible refine oD ?_)
   refine hK3 _ ?_
   refine oS fun _ hK5=>?_
   refine oW T0_ok ?_
   simp (maxSteps:=2000000)only[hwp,go_sem]
   repeat(with_reducible refine oA ?_)
   refine hK5 _ ?_
   refine oS fun _ hK6=>?_
   refine oW T0_ok ?_
   simp (maxSteps:=2000000)only[go_sem]
   repeat(with_reducible refine oA ?_)
   refine hK6 _ ?_
   refine oS fun _ hK7=>?_
   refine oS fun _ hK8=>?_
   refine oR T0_ok
     [[],[0],[0,1],[0,1,2],[],[4],[4,5],[4,5,6],[4,5,6,7],[0,1,2,3,4,5,6,7,8]]
     [[],[],[],[],[],[],[],[],[],[]]
     [[],[],[],[],[],[],[],[],[],[]] (by kernel_rfl) (by kernel_rfl) (adrawR_ok (acc:=[]) ?_)
   simp (maxSteps:=2000000)only[go_sem]
   repeat(with_reducible refine oD ?_)
   refine hK8 _ ?_
   refine oC rfl ?_ ?_
   ·
    intro c1
    have hn:nextD (cd,pt,sd)=(byteD (cd,pt,sd),cd,pt+1,seedD (cd,pt,sd)):=by simp only[nextD,decide_eq_true (show pt+1≤(cd.length:Int) from c1)]
    refine oS fun _ hK9=>?_
    refine oW T0_ok ?_
    simp only[go_sem]
    refine hK9 _ ?_
    refine AWP_ret ?_
    simp only[hres,go_sem]
    first
     | exact oG
     | refine ⟨oG, ?_⟩
       rw[hn]
       simp only[seedD,lowD,hb]
       try((repeat' refine And.intro ?_ ?_)<;>first|rfl|trivial|(congr 1;done))
   intro c1
   have hn:nextD (cd,pt,sd)=(lowD (seedD (cd,pt,sd)),cd,pt+1,seedD (cd,pt,sd)):=by simp only[nextD,decide_eq_false (show ¬pt+1≤(cd.length:Int) by omega)]
   refine AWP_skip ?_
   simp only[go_sem]
   refine hK7 _ ?_
   refine oS fun _ hK10=>?_
   refine oW T0_ok ?_
   simp (maxSteps:=2000000)only[go_sem]
   repeat(with_reducible refine oA ?_)
   refine hK10 _ ?_
   refine AWP_ret ?_
   simp only[hres,go_sem]
   first
    | exact oG
    | refine ⟨oG, ?_⟩
      rw[hn]
      simp only[seedD,lowD,hb]
      try((repeat' refine And.intro ?_ ?_)<;>first|rfl|trivial|(congr 1;done))
  intro c0
  have hb:byteD (cd,pt,sd)=0:=by simp only[byteD,decide_eq_false (show ¬pt < (cd.length:Int) by omega)]
  refine AWP_skip ?_
  simp only[go_sem]
  refine hK3 _ ?_
  refine oS fun _ hK11=>?_
  refine oW T0_ok ?_
  simp (maxSteps:=2000000)only[hwp,go_sem]
  repeat(with_reducible refine oA ?_)
  refine hK11 _ ?_
  refine oS fun _ hK12=>?_
  refine oW T0_ok ?_
  simp (maxSteps:=2000000)only[go_sem]
  repeat(with_reducible refine oA ?_)
  refine hK12 _ ?_
  refine oS fun _ hK13=>?_
  refine oS fun _ hK14=>?_
  refine oR T0_ok
    [[],[0],[0,1],[0,1,2],[],[4],[4,5],[4,5,6],[4,5,6,7],[0,1,2,3,4,5,6,7,8]]
    [[],[],[],[],[],[],[],[],[],[]]
    [[],[],[],[],[],[],[],[],[],[]] (by kernel_rfl) (by kernel_rfl) (adrawR_ok (acc:=[]) ?_)
  simp (maxSteps:=2000000)only[go_sem]
  repeat(with_reducible refine oD ?_)
  refine hK14 _ ?_
  refine oC rfl ?_ ?_
  ·
   intro c1
   have hn:nextD (cd,pt,sd)=(byteD (cd,pt,sd),cd,pt+1,seedD (cd,pt,sd)):=by simp only[nextD,decide_eq_true (show pt+1≤(cd.length:Int) from c1)]
   refine oS fun _ hK15=>?_
   refine oW T0_ok ?_
   simp only[go_sem]
   refine hK15 _ ?_
   refine AWP_ret ?_
   simp only[hres,go_sem]
   first
    | exact oG
    | refine ⟨oG, ?_⟩
      rw[hn]
      simp only[seedD,lowD,hb]
      try((repeat' refine And.intro ?_ ?_)<;>first|rfl|trivial|(congr 1;done))
  intro c1
  have hn:nextD (cd,pt,sd)=(lowD (seedD (cd,pt,sd)),cd,pt+1,seedD (cd,pt,sd)):=by simp only[nextD,decide_eq_false (show ¬pt+1≤(cd.length:Int) by omega)]
  refine AWP_skip ?_
  simp only[go_sem]
  refine hK13 _ ?_
  refine oS fun _ hK16=>?_
  refine oW T0_ok ?_
  simp (maxSteps:=2000000)only[go_sem]
  repeat(with_reducible refine oA ?_)
  refine hK16 _ ?_
  refine AWP_ret ?_
  simp only[hres,go_sem]
  first
   | exact oG
   | refine ⟨oG, ?_⟩
     rw[hn]
     simp only[seedD,lowD,hb]
     try((repeat' refine And.intro ?_ ?_)<;>first|rfl|trivial|(congr 1;done))
def T_next:Tab:=fun f=>if f=72 then some (.g K_next) else T0 f
theorem T_next_ok:TabOk Tryd.prog T_next:=tabG next_ok (fnOk_of Tryd.func72 rfl (by decide)) T0_ok
attribute [go_sem] T_next K_next
def K_pick:GCon where
  ps:=[.po 0,.val (.int .i64)]
  os:=[.box [.rd ((.row 5 (.int .u8))),.rd (.int .i64),.rd (.int .u64)]]
  c:=fun x=>srcOk 2 (x.2.1.1,x.2.1.2.1,x.2.1.2.2.1)
  r:=fun x=>.c (.sc (.int .i64 ((pickD x.1.2.1 (x.2.1.1,x.2.1.2.1,x.2.1.2.2.1)).1)))
  o:=fun x=>[(30,.box [.rd [] 5 (.int .u8) ((pickD x.1.2.1 (x.2.1.1,x.2.1.2.1,x.2.1.2.2.1)).2.1),.sc (.int .i64 ((pickD x.1.2.1 (x.2.1.1,x.2.1.2.1,x.2.1.2.2.1)).2.2.1)),.sc (.int .u64 ((pickD x.1.2.1 (x.2.1.1,x.2.1.2.1,x.2.1.2.2.1)).2.2.2))])]
  ok:=by
    rintro⟨⟨_,(m:Int),_⟩,⟨⟨(cd:List Int),(pt:Int),(sd:Int),_⟩,_⟩⟩
    exact⟨rfl,rfl,by decide⟩
theorem pick_ok:GenT Tryd.prog 60 K_pick:=by
  refine gen_of_body Tryd.func60 rfl ?_
  have hres:Tryd.f60.results.toList=[.tmp 4]:=rfl
  rintro⟨⟨_,(m:Int),_⟩,⟨⟨(cd:List Int),(pt:Int),(sd:Int),_⟩,_⟩⟩ hc hL hO
  simp only[K_pick,go_sem] at hL
  simp only[K_pick,go_sem] at hO
  simp only[K_pick,St.init,St.initG,Tryd.ntmps60,go_sem] 
  have hs0:srcOk 2 (cd,pt,sd):=hc
  refine oS fun _ hK1=>?_
  refine oW T_next_ok ?_
  simp only[go_sem]
  repeat(with_reducible first|refine oA ?_|refine And.intro (by first|exact sLe) ?_)
  refine hK1 _ ?_
  refine oS fun _ hK2=>?_
  refine oS fun _ hK3=>?_
  refine oW T_next_ok ?_
  simp only[go_sem]
  repeat(with_reducible first|refine oA ?_|refine And.intro (by first|exact sLe) ?_)
  refine hK3 _ ?_
  refine oC rfl ?_ ?_
  ·
   intro c0
   refine oS fun _ hK4=>?_
   refine oW T_next_ok ?_
   simp only[go_sem]
   repeat(with_reducible first|refine oA ?_|refine And.intro (by first|exact sLe) ?_)
   refine hK4 _ ?_
   refine AWP_ret ?_
   simp only[hres,go_sem]
   first
    | exact oG
    | refine ⟨oG, ?_⟩
      simp only[pickD,decide_eq_true (show m≤1 from c0)]
      try((repeat' refine And.intro ?_ ?_)<;>first|rfl|trivial|(congr 1;done))
  intro c0
  refine AWP_skip ?_
  simp only[go_sem]
  refine hK2 _ ?_
  refine oS fun _ hK5=>?_
  rcases hr1:nextD (cd,pt,sd) with⟨v1,u1,p1,q1⟩
  obtain⟨hs1,hv1,hb1⟩:=nextD_at hs0 (by omega) hr1
  refine oW T_next_ok ?_
  simp only[hr1,go_sem]
  repeat(with_reducible first|refine oA ?_|refine And.intro (by first|exact sLe) ?_)
  refine hK5 _ ?_
  refine oS fun _ hK6=>?_
  refine oS fun _ hK7=>?_
  refine oW T_next_ok ?_
  simp only[go_sem]
  repeat(with_reducible first|refine oA ?_|refine And.intro (by first|exact sLe) ?_)
  refine hK7 _ ?_
  refine oC rfl ?_ ?_
  ·
   intro c1
   rcases hr2:nextD (u1,p1,q1) with⟨v2,u2,p2,q2⟩
   obtain⟨hs2,hv2,hb2⟩:=nextD_at hs1 (by omega) hr2
   have hw1:IntKind.i64.wrap (v1 * 256)=v1 * 256:=wrapI (by omega)
   have hw2:IntKind.i64.wrap (v1 * 256+v2)=v1 * 256+v2:=wrapI (by omega)
   have hp:pickD m (cd,pt,sd)=((v1 * 256+v2).tmod m,u2,p2,q2):=by simp only[pickD,bnd,decide_eq_false (show ¬m≤1 by omega),hr1,decide_eq_true (show 200 < m by omega),hr2]
   refine oW T_next_ok ?_
   simp (maxSteps:=2000000)only[hw1,hr2,hw2,go_sem]
   repeat(with_reducible first|refine oA ?_|refine And.intro (by first|exact sLe) ?_)
   refine hK6 _ ?_
   refine oS fun _ hK8=>?_
   refine oW T_next_ok ?_
   simp only[go_sem]
   repeat(with_reducible first|refine oA ?_|refine And.intro (by first|exact sLe) ?_)
   refine hK8 _ ?_
   refine AWP_ret ?_
   simp only[hres,go_sem]
   first
    | exact oG
    | refine ⟨oG, ?_⟩
      simp only[hp]
      try((repeat' refine And.intro ?_ ?_)<;>first|rfl|trivial|(congr 1;done))
  intro c1
  have hp:pickD m (cd,pt,sd)=(v1.tmod m,u1,p1,q1):=by simp only[pickD,bnd,decide_eq_false (show ¬m≤1 by omega),hr1,decide_eq_false (show ¬200 < m by omega)]
  refine AWP_skip ?_
  simp only[go_sem]
  refine hK6 _ ?_
  refine oS fun _ hK9=>?_
  refine oW T_next_ok ?_
  simp only[go_sem]
  repeat(with_reducible first|refine oA ?_|refine And.intro (by first|exact sLe) ?_)
  refine hK9 _ ?_
  refine AWP_ret ?_
  simp only[hres,go_sem]
  first
   | exact oG
   | refine ⟨oG, ?_⟩
     simp only[hp]
     try((repeat' refine And.intro ?_ ?_)<;>first|rfl|trivial|(congr 1;done))
def T_pick:Tab:=fun f=>if f=60 then some (.g K_pick) else T_next f
theorem T_pick_ok:TabOk Tryd.prog T_pick:=tabG pick_ok (fnOk_of Tryd.func60 rfl (by decide)) T_next_ok
attribute [go_sem] T_pick K_pick
def K_among:GCon where
  ps:=[.po 0,.val ((.row 2 (.int .i64)))]
  os:=[.box [.rd ((.row 5 (.int .u8))),.rd (.int .i64),.rd (.int .u64)]]
  c:=fun x=>srcOk 2 (x.2.1.1,x.2.1.2.1,x.2.1.2.2.1)∧0 < x.1.2.1.length
  r:=fun x=>.c (.sc (.int .i64 ((amongD x.1.2.1 (x.2.1.1,x.2.1.2.1,x.2.1.2.2.1)).1)))
  o:=fun x=>[(30,.box [.rd [] 5 (.int .u8) ((amongD x.1.2.1 (x.2.1.1,x.2.1.2.1,x.2.1.2.2.1)).2.1),.sc (.int .i64 ((amongD x.1.2.1 (x.2.1.1,x.2.1.2.1,x.2.1.2.2.1)).2.2.1)),.sc (.int .u64 ((amongD x.1.2.1 (x.2.1.1,x.2.1.2.1,x.2.1.2.2.1)).2.2.2))])]
  ok:=by
    rintro⟨⟨_,(xs:List Int),_⟩,⟨⟨(cd:List Int),(pt:Int),(sd:Int),_⟩,_⟩⟩
    exact⟨rfl,rfl,by decide⟩
theorem among_ok:GenT Tryd.prog 59 K_among:=by
  refine gen_of_body Tryd.func59 rfl ?_
  have hres:Tryd.f59.results.toList=[.tmp 4]:=rfl
  rintro⟨⟨_,(xs:List Int),_⟩,⟨⟨(cd:List Int),(pt:Int),(sd:Int),_⟩,_⟩⟩ hc hL hO
  simp only[K_among,go_sem] at hL
  simp only[K_among,go_sem] at hO
  simp only[K_among,St.init,St.initG,Tryd.ntmps59,go_sem] 
  obtain⟨hs0,hx⟩:=(show srcOk 2 (cd,pt,sd)∧0 < xs.length from hc)
  rcases hr1:pickD xs.length (cd,pt,sd) with⟨v1,u1,p1,q1⟩
  obtain⟨hs1,hv1,hb1,hz1⟩:=pickD_at hs0 (by omega) hr1
  have hs1:srcOk _ (u1,p1,q1):=hs1
  have hb1:=hb1 (by omega)
  refine oS fun _ hK1=>?_
  refine oW T_pick_ok ?_
  simp only[go_sem]
  repeat(with_reducible first|refine oA ?_|refine And.intro (by first|exact sLe) ?_)
  refine hK1 _ ?_
  refine oS fun _ hK2=>?_
  refine oW T_pick_ok ?_
  simp (maxSteps:=2000000)only[hr1,go_sem]
  repeat(with_reducible first|refine oA ?_|refine And.intro (by first|exact sLe) ?_)
  refine hK2 _ ?_
  refine AWP_ret ?_
  simp only[hres,go_sem]
  first
   | exact oG
   | refine ⟨oG, ?_⟩
     simp only[show amongD xs (cd,pt,sd)=(xs.getD v1.toNat 0,u1,p1,q1) from bnd_of hr1]
     try((repeat' refine And.intro ?_ ?_)<;>first|rfl|trivial|(congr 1;done))
def T_among:Tab:=fun f=>if f=59 then some (.g K_among) else T_pick f
theorem T_among_ok:TabOk Tryd.prog T_among:=tabG among_ok (fnOk_of Tryd.func59 rfl (by decide)) T_pick_ok
attribute [go_sem] T_among K_among
def K_l00From:GCon where
  ps:=[.val ((.row 5 (.int .u8)))]
  os:=[]
  c:=fun _=>True
  r:=fun _=>.c (.po 10 0)
  o:=fun x=>[(10,.box [.rd [] 5 (.int .u8) (x.1.1),.sc (.int .i64 (0)),.sc (.int .u64 (0))])]
  ok:=by
    rintro⟨⟨(cd:List Int),_⟩,_⟩
    exact⟨rfl,rfl,by decide⟩
theorem l00From_ok:GenT Tryd.prog 40 K_l00From:=by
  refine gen_of_body Tryd.func40 rfl ?_
  have hres:Tryd.f40.results.toList=[.tmp 2]:=rfl
  rintro⟨⟨(cd:List Int),_⟩,_⟩ hc hL hO
  simp only[K_l00From,go_sem] at hL
  simp only[K_l00From,go_sem] at hO
  simp only[K_l00From,St.init,St.initG,Tryd.ntmps40,go_sem] 
  refine oS fun _ hK1=>?_
  refine oW T_among_ok ?_
  simp only[go_sem]
  refine hK1 _ ?_
  refine oS fun _ hK2=>?_
  refine oW T_among_ok ?_
  simp only[go_sem]
  refine hK2 _ ?_
  refine AWP_ret ?_
  simp only[hres,go_sem]
  first|exact oG|(refine⟨oG,?_⟩;(repeat' refine And.intro ?_ ?_)<;>first|rfl|(congr 1;done))
def T_l00From:Tab:=fun f=>if f=40 then some (.g K_l00From) else T_among f
theorem T_l00From_ok:TabOk Tryd.prog T_l00From:=tabG l00From_ok (fnOk_of Tryd.func40 rfl (by decide)) T_among_ok
attribute [go_sem] T_l00From K_l00From
def K_l14Draw:GCon where
  ps:=[.po 0]
  os:=[.box [.rd ((.row 5 (.int .u8))),.rd (.int .i64),.rd (.int .u64)]]
  c:=fun x=>srcOk 24 (x.2.1.1,x.2.1.2.1,x.2.1.2.2.1)
  r:=fun x=>.agg [.sc (.int .i64 (envM (x.2.1.1,x.2.1.2.1,x.2.1.2.2.1)).1.1),.ow 10,.sc (.int .i64 (envM (x.2.1.1,x.2.1.2.1,x.2.1.2.2.1)).1.2.2)]
  o:=fun x=>[(30,.box [.rd [] 5 (.int .u8) ((envM (x.2.1.1,x.2.1.2.1,x.2.1.2.2.1)).2.1),.sc (.int .i64 ((envM (x.2.1.1,x.2.1.2.1,x.2.1.2.2.1)).2.2.1)),.sc (.int .u64 ((envM (x.2.1.1,x.2.1.2.1,x.2.1.2.2.1)).2.2.2))]),(10,.row 48 ((.prod (.int .i64) (.int .i64))) ((envM (x.2.1.1,x.2.1.2.1,x.2.1.2.2.1)).1.2.1) [])]
  ok:=by
    rintro⟨⟨_,_⟩,⟨⟨(cd:List Int),(pt:Int),(sd:Int),_⟩,_⟩⟩
    exact⟨rfl,rfl,by decide⟩
theorem l14Draw_ok:GenT Tryd.prog 39 K_l14Draw:=by
  refine gen_of_body Tryd.func39 rfl ?_
  have hres:Tryd.f39.results.toList=[.cell 2 29]:=rfl
  rintro⟨⟨_,_⟩,⟨⟨(cd:List Int),(pt:Int),(sd:Int),_⟩,_⟩⟩ hc hL hO
  simp only[K_l14Draw,go_sem] at hL
  simp only[K_l14Draw,go_sem] at hO
  simp only[K_l14Draw,St.init,St.initG,Tryd.ntmps39,go_sem] 
  have hs0:srcOk 24 (cd,pt,sd):=hc
  rcases hr1:amongD [0,0,0,100,65536] (cd,pt,sd) with⟨v1,u1,p1,q1⟩
  obtain⟨hs1,hm1⟩:=amongD_at hs0 (by omega) (by simp) hr1
  rcases hr2:pickD 5 (u1,p1,q1) with⟨v2,u2,p2,q2⟩
  obtain⟨hs2,hv2,hb2,hz2⟩:=pickD_at hs1 (by omega) hr2
  have hs2:srcOk _ (u2,p2,q2):=hs2
  have hb2:=hb2 (by omega)
  refine oS fun _ hK1=>?_
  refine oW T_l00From_ok ?_
  simp only[go_sem]
  repeat(with_reducible first|refine oA ?_|refine And.intro (by first|exact sLe|exact⟨hs0.le (by omega),by simp⟩|exact⟨hs4.le (by omega),by simp⟩) ?_)
  refine hK1 _ ?_
  refine oS fun _ hK2=>?_
  refine oW T_l00From_ok ?_
  simp (maxSteps:=2000000)only[List.nodup_cons,List.nodup_nil,List.not_mem_nil,not_false_eq_true,hr1,go_sem]
  repeat(with_reducible first|refine oA ?_|refine And.intro (by first|exact sLe|exact⟨hs0.le (by omega),by simp⟩|exact⟨hs4.le (by omega),by simp⟩) ?_)
  refine hK2 _ ?_
  refine oS fun _ hK3=>?_
  refine oS fun _ hK4=>?_
  refine oW T_l00From_ok ?_
  simp only[hr2,go_sem]
  repeat(with_reducible first|refine oA ?_|refine And.intro (by first|exact sLe|exact⟨hs0.le (by omega),by simp⟩|exact⟨hs4.le (by omega),by simp⟩) ?_)
  refine hK4 _ ?_
  refine AWP_block ?_
  refine AWP_wk (Wk_nilBox _ 148 1 9001 48 ((.prod (.int .i64) (.int .i64))) (by decide)) ?_
  simp (maxSteps:=2000000)only[go_sem]
  refine AWP_loop_k (ι:={ k:Nat // k≤v2.toNat }) (fun k=>⟨[.c (.po 30 0),zz,.c (.po 132 0),.c (.po 148 0),.c (.sc (.int .i64 (v2 - (k.1:Int)))),zz,zz,zz,zz,zz,zz,zz,zz,zz,zz,zz,zz,zz,zz,zz,zz,zz,zz,zz,zz,zz,zz,zz,zz,zz,zz,zz,zz],[(30,.box [.rd [] 5 (.int .u8) ((itD (snocG segD) k.1 [] (u2,p2,q2)).2.1),.sc (.int .i64 ((itD (snocG segD) k.1 [] (u2,p2,q2)).2.2.1)),.sc (.int .u64 ((itD (snocG segD) k.1 [] (u2,p2,q2)).2.2.2))]),(132,.box [.sc (.int .i64 (0)),.sc (.slice none 0 0),.sc (.int .i64 (0))]),(148,.box [.sc (.int .i64 (v1)),.ow 9001,.sc (.int .i64 (0))]),(9001,.row 48 ((.prod (.int .i64) (.int .i64))) ((itD (snocG segD) k.1 [] (u2,p2,q2)).1) [])]⟩) (fun k=>v2.toNat - k.1) ⟨0,by omega⟩ ?_ ?_
  ·
   refine oK ?_
   simp (maxSteps:=2000000)only[go_sem]
   all_goals((repeat' refine And.intro ?_ ?_)<;>first|rfl|omega|(simp;done)|(congr 1;done))
  rintro⟨k,hk⟩ K5 hL5
  rcases hit:itD (snocG segD) k [] (u2,p2,q2) with⟨v3,u3,p3,q3⟩
  have hs3:=(Cost.it (snocG_cost segD_cost) k []).at hs2 (by omega) hit
  have hlk:v3.length=k:=by have:=(segsD_ok k _ _ hs2 (by omega)).2;rw[hit] at this;exact this
  refine oS fun _ hK6=>?_
  refine oS fun _ hK7=>?_
  refine oW T_l00From_ok ?_
  simp only[hit,go_sem]
  repeat(with_reducible first|refine oA ?_|refine And.intro (by first|exact sLe|exact⟨hs0.le (by omega),by simp⟩|exact⟨hs4.le (by omega),by simp⟩) ?_)
  refine hK7 _ ?_
  refine oC rfl ?_ ?_
  ·
   intro c0
   refine AWP_skip ?_
   simp only[go_sem]
   refine hK6 _ ?_
   refine oS fun _ hK8=>?_
   refine AWP_block ?_
   refine oS fun _ hK9=>?_
   rcases hr4:pickD 12 (u3,p3,q3) with⟨v4,u4,p4,q4⟩
   obtain⟨hs4,hv4,hb4,hz4⟩:=pickD_at hs3 (by omega) hr4
   have hs4:srcOk _ (u4,p4,q4):=hs4
   refine oW T_l00From_ok ?_
   simp (maxSteps:=2000000)only[List.nodup_cons,List.nodup_nil,List.not_mem_nil,not_false_eq_true,hr4,go_sem]
   repeat(with_reducible first|refine oA ?_|refine And.intro (by first|exact sLe|exact⟨hs0.le (by omega),by simp⟩|exact⟨hs4.le (by omega),by simp⟩) ?_)
   refine hK9 _ ?_
   refine oS fun _ hK10=>?_
   rcases hr5:amongD [0,7,100,1000,50000,65536] (u4,p4,q4) with⟨v5,u5,p5,q5⟩
   obtain⟨hs5,hm5⟩:=amongD_at hs4 (by omega) (by simp) hr5
   have hnx:(itD (snocG segD) (k+1) [] (u2,p2,q2))=(v3++[(v4,v5)],u5,p5,q5):=(itD_succ hit).trans (by simp only[snocG,segD,bnd,hr4,hr5])
   refine oW T_l00From_ok ?_
   simp (maxSteps:=2000000)only[List.nodup_cons,List.nodup_nil,List.not_mem_nil,not_false_eq_true,hr5,go_sem]
   repeat(with_reducible first|refine oA ?_|refine And.intro (by first|exact sLe|exact⟨hs0.le (by omega),by simp⟩|exact⟨hs4.le (by omega),by simp⟩) ?_)
   refine hK10 _ ?_
   refine oW T_l00From_ok ?_
   simp (maxSteps:=2000000)only[go_sem]
   repeat(with_reducible first|refine oA ?_|refine And.intro (by first|exact sLe|exact⟨hs0.le (by omega),by simp⟩|exact⟨hs4.le (by omega),by simp⟩) ?_)
   refine hK8 _ ?_
   refine oW T_l00From_ok ?_
   simp only[go_sem]
   repeat(with_reducible first|refine oA ?_|refine And.intro (by first|exact sLe|exact⟨hs0.le (by omega),by simp⟩|exact⟨hs4.le (by omega),by simp⟩) ?_)
   refine hL5 ⟨k+1,by omega⟩ _ (oK ?_) ?_
   ·
    simp (maxSteps:=2000000)only[go_sem]
    all_goals(try simp only[hnx])
    all_goals((repeat' refine And.intro ?_ ?_)<;>first|rfl|(rw[wrapI (by omega)];omega)|(congr 1;done))
   ·
    first|(simp only[];omega)|omega|(simp;omega)
  intro c0
  obtain rfl:k=v2.toNat:=by omega
  refine AWP_exit ?_
  simp only[go_sem]
  refine hK3 _ ?_
  refine oS fun _ hK11=>?_
  rcases hr6:pickD 10 (u3,p3,q3) with⟨v6,u6,p6,q6⟩
  obtain⟨hs6,hv6,hb6,hz6⟩:=pickD_at hs3 (by omega) hr6
  have hs6:srcOk _ (u6,p6,q6):=hs6
  refine oW T_l00From_ok ?_
  simp only[hr6,go_sem]
  repeat(with_reducible first|refine oA ?_|refine And.intro (by first|exact sLe|exact⟨hs0.le (by omega),by simp⟩|exact⟨hs4.le (by omega),by simp⟩) ?_)
  refine hK11 _ ?_
  refine oS fun _ hK12=>?_
  refine oW T_l00From_ok ?_
  simp only[go_sem]
  repeat(with_reducible first|refine oA ?_|refine And.intro (by first|exact sLe|exact⟨hs0.le (by omega),by simp⟩|exact⟨hs4.le (by omega),by simp⟩) ?_)
  refine hK12 _ ?_
  refine AWP_ret ?_
  simp only[hres,go_sem]
  first
   | exact oG
   | refine ⟨oG, ?_⟩
     simp only[envM,bnd,hr1,hr2,hit,hr6]
     try((repeat' refine And.intro ?_ ?_)<;>first|rfl|trivial|(congr 1;done))
def T_l14Draw:Tab:=fun f=>if f=39 then some (.g K_l14Draw) else T_l00From f
theorem T_l14Draw_ok:TabOk Tryd.prog T_l14Draw:=tabG l14Draw_ok (fnOk_of Tryd.func39 rfl (by decide)) T_l00From_ok
attribute [go_sem] T_l14Draw K_l14Draw
def K_a2Env:Con:=⟨[.val ((.row 5 (.int .u8)))],[⟨(.prod (.int .i64) (.prod (.row 48 (.prod (.int .i64) (.int .i64))) (.int .i64))),true⟩],fun x=>∀b∈(x.1:List Int),0≤b∧b≤255,fun x=>envC x.1⟩
theorem a2Env_ok:PureT Tryd.prog 16 K_a2Env:=by
  refine pure_of_body Tryd.func16 rfl ?_
  have hres:Tryd.f16.results.toList=[.cell 2 29]:=rfl
  rintro⟨(cd:List Int),_⟩ hc hL
  simp only[K_a2Env,go_sem] at hL
  simp only[K_a2Env,St.init,St.initG,Tryd.ntmps16,go_sem] 
  have hcd:∀b∈cd,0≤b∧b≤255:=hc
  have hs0:srcOk 3000 (cd,0,0):=⟨hcd,by simp,by simp⟩
  refine oS fun _ hK1=>?_
  refine oW T_l14Draw_ok ?_
  simp only[go_sem]
  repeat(with_reducible first|refine oA ?_|refine And.intro (by first|exact sLe) ?_)
  refine hK1 _ ?_
  refine oS fun _ hK2=>?_
  refine oW T_l14Draw_ok ?_
  simp only[List.nodup_cons,List.nodup_nil,List.not_mem_nil,not_false_eq_true,go_sem]
  repeat(with_reducible first|refine oA ?_|refine And.intro (by first|exact sLe) ?_)
  refine hK2 _ ?_
  refine AWP_ret ?_
  simp only[hres,go_sem]
  first|exact oF|exact oFr
def T_a2Env:Tab:=fun f=>if f=16 then some (.p K_a2Env) else T_l14Draw f
theorem T_a2Env_ok:TabOk Tryd.prog T_a2Env:=tabP a2Env_ok (fnOk_of Tryd.func16 rfl (by decide)) T_l14Draw_ok
attribute [go_sem] T_a2Env K_a2Env
def K_sameE:Con:=⟨[.val ((.prod (.int .i64) (.prod (.row 48 (.prod (.int .i64) (.int .i64))) (.int .i64)))),.val ((.prod (.int .i64) (.prod (.row 48 (.prod (.int .i64) (.int .i64))) (.int .i64))))],[⟨.bool,true⟩],fun _=>True,fun x=>eqD (x.1:EnvD) (x.2.1:EnvD)⟩
theorem sameE_ok:PureT Tryd.prog 22 K_sameE:=by
  refine pure_of_body Tryd.func22 rfl ?_
  have hres:Tryd.f22.results.toList=[.tmp 4]:=rfl
  rintro⟨⟨(st:Int),(sg:List (Int × Int)),(rl:Int)⟩,⟨(st2:Int),(sg2:List (Int × Int)),(rl2:Int)⟩,_⟩ hc hL
  simp only[K_sameE,go_sem] at hL
  simp only[K_sameE,St.init,St.initG,Tryd.ntmps22,go_sem] 
  refine oS fun _ hK1=>?_
  refine oW T_a2Env_ok ?_
  simp only[go_sem]
  refine hK1 _ ?_
  refine oS fun _ hK2=>?_
  refine oS fun _ hK3=>?_
  refine oW T_a2Env_ok ?_
  simp (maxSteps:=2000000)only[go_sem]
  repeat' (with_reducible first|refine oA ?_|refine oT (fun g1=>?_) (fun g1=>?_)|refine oE (fun g1=>?_) (fun g1=>?_))
  all_goals
   refine hK3 _ ?_
   refine AWP_cond rfl ?_ ?_
   ·
    intro c0
    try simp only[zA,zB,zC,zD,zE,zF,zG,zH,zI] at c0
    all_goals
     refine oS fun _ hK4=>?_
     refine oW T_a2Env_ok ?_
     simp only[go_sem]
     refine hK4 _ ?_
     refine AWP_ret ?_
     simp only[hres,go_sem]
     first|exact oF|(refine⟨?_,oF⟩;exact(decide_eq_false (by rintro e;cases e;first|omega|(clear hK1 hK2 hK3 hK4;simp_all;done))).symm)
   ·
    intro c0
    try simp only[zA,zB,zC,zD,zE,zF,zG,zH,zI] at c0
    all_goals
     have hst:st=st2∧rl=rl2∧sg.length=sg2.length:=by refine⟨?_,?_,?_⟩<;>first|omega|(clear hK1 hK2 hK3;simp_all;done)
     obtain⟨rfl,rfl,hll⟩:=hst
     refine AWP_skip ?_
     simp only[go_sem]
     refine hK2 _ ?_
     refine oS fun _ hK5=>?_
     refine oS fun _ hK6=>?_
     refine oW T_a2Env_ok ?_
     simp only[go_sem]
     refine hK6 _ ?_
     refine AWP_block ?_
     refine AWP_loop_k (ι:={ k:Nat // k≤sg.length∧sg.take k=sg2.take k }) (fun k=>⟨[zz,zz,.c (.po 132 0),.c (.po 148 0),zz,.c (.sc (.int .i64 (k.1))),zz,zz,zz,zz,zz,zz,zz,zz,zz,zz,zz,zz,zz,zz,zz,zz,zz,zz,zz,zz,zz,zz,zz,zz,zz,zz,zz,zz,zz,zz,zz,zz,zz,zz,zz,zz,zz,zz,zz],[(132,.box [.sc (.int .i64 (st)),.rd [] 48 ((.prod (.int .i64) (.int .i64))) (sg),.sc (.int .i64 (rl))]),(148,.box [.sc (.int .i64 (st)),.rd [] 48 ((.prod (.int .i64) (.int .i64))) (sg2),.sc (.int .i64 (rl))])]⟩) (fun k=>sg.length - k.1) ⟨0,by simp,by simp⟩ ?_ ?_
     ·
      refine oK ?_
      simp (maxSteps:=2000000)only[go_sem]
      all_goals((repeat' refine And.intro ?_ ?_)<;>first|rfl|exact True.intro|exact wk (by omega)|omega|(rw[wrapI (by omega)];omega)|(congr 1;done)|(simp;done))
     rintro⟨k,hk,hp⟩ K7 hL7
     refine oS fun _ hK8=>?_
     refine oS fun _ hK9=>?_
     refine oW T_a2Env_ok ?_
     simp (maxSteps:=2000000)only[go_sem]
     repeat(with_reducible refine oA ?_)
     refine hK9 _ ?_
     refine AWP_cond rfl ?_ ?_
     ·
      intro c1
      try simp only[zA,zB,zC,zD,zE,zF,zG,zH,zI] at c1
      all_goals
       refine AWP_skip ?_
       simp only[go_sem]
       refine hK8 _ ?_
       refine oS fun _ hK10=>?_
       refine AWP_block ?_
       refine oS fun _ hK11=>?_
       refine oR T_a2Env_ok
         [[],[0],[],[0,1,2],[0,1,2,3],[],[5],[],[5,6,7],[5,6,7,8],[0,1,2,3,4,5,6,7,8,9]]
         [[],[],[],[],[],[],[],[],[],[],[]]
         [[],[],[],[],[],[],[],[],[],[],[]] (by kernel_rfl) (by kernel_rfl) (adrawR_ok (acc:=[]) ?_)
       simp (maxSteps:=2000000)only[go_sem]
       repeat(with_reducible refine oD ?_)
       refine hK11 _ ?_
       refine AWP_cond rfl ?_ ?_
       ·
        intro c2
        try simp only[zA,zB,zC,zD,zE,zF,zG,zH,zI] at c2
        all_goals
         refine oS fun _ hK12=>?_
         refine oW T_a2Env_ok ?_
         simp only[go_sem]
         refine hK12 _ ?_
         refine AWP_ret ?_
         simp only[hres,go_sem]
         first
          | exact oF
          | refine ⟨?_, oF⟩
            have hne:¬sg=sg2:=fun e=>by subst e;first|contradiction|(clear hK1 hK2 hK3 hK5 hK6 hL7 hK8 hK9 hK10 hK11 hK12;simp_all;done)
            exact(decide_eq_false (by rintro e;cases e;exact hne rfl)).symm
       ·
        intro c2
        try simp only[zA,zB,zC,zD,zE,zF,zG,zH,zI] at c2
        all_goals
         have hxe:sg.getD k ((0,0):Int × Int)=sg2.getD k ((0,0):Int × Int):=by first|assumption|(clear hK1 hK2 hK3 hK5 hK6 hL7 hK8 hK9 hK10 hK11;simp_all;done)|(apply Prod.ext<;>first|omega|(clear hK1 hK2 hK3 hK5 hK6 hL7 hK8 hK9 hK10 hK11;simp_all;done))
         refine AWP_skip ?_
         simp only[go_sem]
         refine hK10 _ ?_
         refine oW T_a2Env_ok ?_
         simp only[go_sem]
         refine hL7 ⟨k+1,by omega,eq_next (d:=((0,0):Int × Int)) (by omega) (by omega) hp (by first|exact hxe|exact decide_eq_true hxe)⟩ _ (oK ?_) ?_
         ·
          simp (maxSteps:=2000000)only[go_sem]
          all_goals((repeat' refine And.intro ?_ ?_)<;>first|rfl|exact True.intro|exact wk (by omega)|omega|(rw[wrapI (by omega)];omega)|(congr 1;done)|(simp;done))
         ·
          first|(simp only[];omega)|omega|(simp;omega)
     ·
      intro c1
      try simp only[zA,zB,zC,zD,zE,zF,zG,zH,zI] at c1
      all_goals
       refine AWP_exit ?_
       simp only[go_sem]
       refine hK5 _ ?_
       refine oS fun _ hK13=>?_
       refine oW T_a2Env_ok ?_
       simp only[go_sem]
       refine hK13 _ ?_
       refine AWP_ret ?_
       simp only[hres,go_sem]
       first
        | exact oF
        | refine ⟨?_, oF⟩
          have hse:sg=sg2:=by have h1:=List.take_of_length_le (l:=sg) (i:=k) (by omega);have h2:=List.take_of_length_le (l:=sg2) (i:=k) (by omega);rw[h1,h2] at hp;exact hp
          subst hse
          exact(decide_eq_true rfl).symm
def T_sameE:Tab:=fun f=>if f=22 then some (.p K_sameE) else T_a2Env f
theorem T_sameE_ok:TabOk Tryd.prog T_sameE:=tabP sameE_ok (fnOk_of Tryd.func22 rfl (by decide)) T_a2Env_ok
attribute [go_sem] T_sameE K_sameE
def K_a2Long:Con:=⟨[.val ((.row 5 (.int .u8))),.val ((.row 5 (.int .u8)))],[⟨.bool,true⟩],fun _=>True,fun x=>decide (3000 < (x.1.length:Int)) || decide (3000 < (x.2.1.length:Int))⟩
theorem a2Long_ok:PureT Tryd.prog 15 K_a2Long:=by
  refine pure_of_body Tryd.func15 rfl ?_
  have hres:Tryd.f15.results.toList=[.tmp 4]:=rfl
  rintro⟨(cd:List Int),(pd:List Int),_⟩ hc hL
  simp only[K_a2Long,go_sem] at hL
  simp only[K_a2Long,St.init,St.initG,Tryd.ntmps15,go_sem] 
  refine oS fun _ hK1=>?_
  refine oW T_sameE_ok ?_
  simp only[go_sem]
  refine hK1 _ ?_
  refine oS fun _ hK2=>?_
  refine oW T_sameE_ok ?_
  simp (maxSteps:=2000000)only[go_sem]
  repeat' (with_reducible first|refine oA ?_|refine oT (fun g1=>?_) (fun g1=>?_)|refine oE (fun g1=>?_) (fun g1=>?_))
  all_goals
   refine hK2 _ ?_
   refine AWP_ret ?_
   simp only[hres,go_sem]
   first|exact oF|(refine⟨?_,oF⟩;first|rfl|(rw[decide_eq_true (show 3000 < (cd.length:Int) from g1)];rfl)|(rw[decide_eq_false (show ¬3000 < (cd.length:Int) by omega),Bool.false_or]))
def T_a2Long:Tab:=fun f=>if f=15 then some (.p K_a2Long) else T_sameE f
theorem T_a2Long_ok:TabOk Tryd.prog T_a2Long:=tabP a2Long_ok (fnOk_of Tryd.func15 rfl (by decide)) T_sameE_ok
attribute [go_sem] T_a2Long K_a2Long
def K_a2At:Con:=⟨[.val ((.row 5 (.int .u8))),.val (.int .i64),.val (.int .i64)],[⟨.int .i64,true⟩],fun x=>(∀b∈(x.1:List Int),0≤b∧b≤255)∧0≤x.2.1∧0≤x.2.2.1,fun x=>atB x.1 x.2.1 x.2.2.1⟩
theorem a2At_ok:PureT Tryd.prog 17 K_a2At:=by
  refine pure_of_body Tryd.func17 rfl ?_
  have hres:Tryd.f17.results.toList=[.tmp 6]:=rfl
  rintro⟨(pd:List Int),(kk:Int),(mm:Int),_⟩ hc hL
  simp only[K_a2At,go_sem] at hL
  simp only[K_a2At,St.init,St.initG,Tryd.ntmps17,go_sem] 
  obtain⟨hpb,hk0,hm0⟩:=(show (∀b∈pd,0≤b∧b≤255)∧0≤kk∧0≤mm from hc)
  refine oS fun _ hK1=>?_
  refine oW T_a2Long_ok ?_
  simp only[go_sem]
  refine hK1 _ ?_
  refine oS fun _ hK2=>?_
  refine oS fun _ hK3=>?_
  refine oW T_a2Long_ok ?_
  simp (maxSteps:=2000000)only[go_sem]
  repeat' (with_reducible first|refine oA ?_|refine oT (fun g1=>?_) (fun g1=>?_)|refine oE (fun g1=>?_) (fun g1=>?_))
  all_goals
   refine hK3 _ ?_
   refine AWP_cond rfl ?_ ?_
   ·
    intro c0
    try simp only[zA,zB,zC,zD,zE,zF,zG,zH,zI] at c0
    all_goals
     have ho:(pd.length:Int)≤kk∨mm < 1:=by first|omega|(clear hK1 hK2 hK3;simp_all;omega)
     refine oS fun _ hK4=>?_
     refine oW T_a2Long_ok ?_
     simp only[go_sem]
     refine hK4 _ ?_
     refine AWP_ret ?_
     simp only[hres,go_sem]
     first|exact oF|(refine⟨?_,oF⟩;exact(atB_t ho).symm)
   ·
    intro c0
    try simp only[zA,zB,zC,zD,zE,zF,zG,zH,zI] at c0
    all_goals
     have ho1:¬(pd.length:Int)≤kk:=by first|omega|(clear hK1 hK2 hK3;simp_all;omega)
     have ho2:¬mm < 1:=by first|omega|(clear hK1 hK2 hK3;simp_all;omega)
     have hbb:=hpb _ (getD_mem (d:=(0:Int)) (show kk.toNat < pd.length by omega))
     have hw1:IntKind.i64.wrap (pd.getD kk.toNat 0)=pd.getD kk.toNat 0:=wrapI (by omega)
     have hw2:IntKind.i64.wrap ((pd.getD kk.toNat 0).tmod mm)=(pd.getD kk.toNat 0).tmod mm:=by exact wrapI (by have:=tmod_rng hbb.1 hbb.2 (show 1≤mm by omega);omega)
     refine AWP_skip ?_
     simp only[go_sem]
     refine hK2 _ ?_
     refine oS fun _ hK5=>?_
     refine oW T_a2Long_ok ?_
     simp (maxSteps:=2000000)only[hw1,hw2,go_sem]
     repeat(with_reducible refine oA ?_)
     refine hK5 _ ?_
     refine AWP_ret ?_
     simp only[hres,go_sem]
     first|exact oF|(refine⟨?_,oF⟩;exact(atB_f ho1 ho2).symm)
def T_a2At:Tab:=fun f=>if f=17 then some (.p K_a2At) else T_a2Long f
theorem T_a2At_ok:TabOk Tryd.prog T_a2At:=tabP a2At_ok (fnOk_of Tryd.func17 rfl (by decide)) T_a2Long_ok
attribute [go_sem] T_a2At K_a2At
end Go.Proofs.YthhogcknkimijaaDoor
