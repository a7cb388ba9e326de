/-
  Texts of this claim, joined (part 9). No condition beyond those of the theorems.
-/
import Derived.Test.YtgmabhkmiokiaaaGreatVa05
import Derived.Test.YtgmabhkmiokiaaaGreatVa08
import Derived.Test.YtgmabhkmiokiaaaGreatVa02
namespace Go.Proofs.YtgmabhkmiokiaaaGreat
open Go.RowKit
set_option linter.unusedSimpArgs false
set_option linter.unusedVariables false
set_option maxRecDepth 100000
set_option maxHeartbeats 4000000
def K_next:GCon where
  ps:=[.po 0]
  os:=[.box [.rd ((.row 5 (.int .u8))),.rd (.int .i64),.rd (.int .u64)]]
  c:=fun x=>srcOk 1 (x.2.1.1,x.2.1.2.1,x.2.1.2.2.1)
  r:=fun x=>.c (.sc (.int .i64 ((nextD (x.2.1.1,x.2.1.2.1,x.2.1.2.2.1)).1)))
  o:=fun x=>[(30,.box [.rd [] 5 (.int .u8) ((nextD (x.2.1.1,x.2.1.2.1,x.2.1.2.2.1)).2.1),.sc (.int .i64 ((nextD (x.2.1.1,x.2.1.2.1,x.2.1.2.2.1)).2.2.1)),.sc (.int .u64 ((nextD (x.2.1.1,x.2.1.2.1,x.2.1.2.2.1)).2.2.2))])]
  ok:=by
    rintro ⟨⟨_,_⟩,⟨⟨(cd:List Int),(pt:Int),(sd:Int),_⟩,_⟩⟩
    exact ⟨rfl,rfl,by decide⟩
theorem next_ok:GenT Tryz.prog 57 K_next:=by
  refine gen_of_body Tryz.func57 rfl ?_
  have hres:Tryz.f57.results.toList=[.tmp 2]:=rfl
  rintro ⟨⟨_,_⟩,⟨⟨(cd:List Int),(pt:Int),(sd:Int),_⟩,_⟩⟩ hc hL hO
  simp only[K_next,go_sem] at hL
  simp only[K_next,go_sem] at hO
  simp only[K_next,St.init,St.initG,Tryz.ntmps57,go_sem] 
  have hs0:srcOk 1 (cd,pt,sd):=hc
  have hp0:0≤pt:=hs0.2.1
  have hp1:pt+1≤4611686018427387904:=hs0.2.2
  have hwp:IntKind.i64.wrap (pt+1)=pt+1:=wrapI (by omega)
  refine oS fun _ hK1=>?_;refine oW T_l06Look_ok ?_;simp only[go_sem];refine hK1 _ ?_;refine oS fun _ hK2=>?_;refine oW T_l06Look_ok ?_;simp only[go_sem];refine hK2 _ ?_;refine oS fun _ hK3=>?_;refine oS fun _ hK4=>?_
  refine oR T_l06Look_ok
    [[],[0],[0,1],[0,1,2],[],[4],[4,5],[4,5,6],[4,5,6,7],[0,1,2,3,4,5,6,7,8]]
    [[],[],[],[],[],[],[],[],[],[]]
    [[],[],[],[],[],[],[],[],[],[]] (by kernel_rfl) (by kernel_rfl) (adrawR_ok (acc:=[]) ?_)
  simp (maxSteps:=2000000)only[go_sem];repeat (with_reducible refine oD ?_)
  refine hK4 _ ?_;refine oC rfl ?_ ?_
  ·
   intro c0;have hb:byteD (cd,pt,sd)=IntKind.i64.wrap (cd.getD pt.toNat 0):=by simp only[byteD,decide_eq_true (show pt < (cd.length:Int) from c0)]
   refine oR T_l06Look_ok
     [[],[0],[0,1],[0,1,2],[],[4],[4,5],[4,5,6],[0,1,2,3,4,5,6,7],[0,1,2,3,4,5,6,7,8],[0,1,2,3,4,5,6,7,8,9],[0,1,2,3,4,5,6,7,8,9,10]]
     [[],[],[],[],[],[],[],[],[],[],[],[]]
     [[],[],[],[],[],[],[],[],[],[],[],[]] (by kernel_rfl) (by kernel_rfl) (adrawR_ok (acc:=[]) ?_)
   simp (maxSteps:=2000000)only[go_sem];repeat (with_reducible refine oD ?_)
   refine hK3 _ ?_;refine oS fun _ hK5=>?_;refine oW T_l06Look_ok ?_;simp (maxSteps:=2000000)only[hwp,go_sem];repeat (with_reducible refine oA ?_)
   refine hK5 _ ?_;refine oS fun _ hK6=>?_;refine oW T_l06Look_ok ?_;simp (maxSteps:=2000000)only[go_sem];repeat (with_reducible refine oA ?_)
   refine hK6 _ ?_;refine oS fun _ hK7=>?_;refine oS fun _ hK8=>?_
   refine oR T_l06Look_ok
     [[],[0],[0,1],[0,1,2],[],[4],[4,5],[4,5,6],[4,5,6,7],[0,1,2,3,4,5,6,7,8]]
     [[],[],[],[],[],[],[],[],[],[]]
     [[],[],[],[],[],[],[],[],[],[]] (by kernel_rfl) (by kernel_rfl) (adrawR_ok (acc:=[]) ?_)
   simp (maxSteps:=2000000)only[go_sem];repeat (with_reducible refine oD ?_)
   refine hK8 _ ?_;refine oC rfl ?_ ?_
   ·
    intro c1;have hn:nextD (cd,pt,sd)=(byteD (cd,pt,sd),cd,pt+1,seedD (cd,pt,sd)):=by simp only[nextD,decide_eq_true (show pt+1≤(cd.length:Int) from c1)]
    refine oS fun _ hK9=>?_;refine oW T_l06Look_ok ?_;simp only[go_sem];refine hK9 _ ?_;refine AWP_ret ?_;simp only[hres,go_sem]
    first
     | exact oG
     | refine ⟨oG,?_⟩
       rw [hn];simp only[seedD,lowD,hb];try ((repeat' refine And.intro ?_ ?_)<;>first | rfl | trivial | (congr 1; done))
   intro c1;have hn:nextD (cd,pt,sd)=(lowD (seedD (cd,pt,sd)),cd,pt+1,seedD (cd,pt,sd)):=by simp only[nextD,decide_eq_false (show ¬ pt+1≤(cd.length:Int) by omega)]
   refine AWP_skip ?_;simp only[go_sem];refine hK7 _ ?_;refine oS fun _ hK10=>?_;refine oW T_l06Look_ok ?_;simp (maxSteps:=2000000)only[go_sem];repeat (with_reducible refine oA ?_)
   refine hK10 _ ?_;refine AWP_ret ?_;simp only[hres,go_sem]
   first
    | exact oG
    | refine ⟨oG,?_⟩
      rw [hn];simp only[seedD,lowD,hb];try ((repeat' refine And.intro ?_ ?_)<;>first | rfl | trivial | (congr 1; done))
  intro c0;have hb:byteD (cd,pt,sd)=0:=by simp only[byteD,decide_eq_false (show ¬ pt < (cd.length:Int) by omega)]
  refine AWP_skip ?_;simp only[go_sem];refine hK3 _ ?_;refine oS fun _ hK11=>?_;refine oW T_l06Look_ok ?_;simp (maxSteps:=2000000)only[hwp,go_sem];repeat (with_reducible refine oA ?_)
  refine hK11 _ ?_;refine oS fun _ hK12=>?_;refine oW T_l06Look_ok ?_;simp (maxSteps:=2000000)only[go_sem];repeat (with_reducible refine oA ?_)
  refine hK12 _ ?_;refine oS fun _ hK13=>?_;refine oS fun _ hK14=>?_
  refine oR T_l06Look_ok
    [[],[0],[0,1],[0,1,2],[],[4],[4,5],[4,5,6],[4,5,6,7],[0,1,2,3,4,5,6,7,8]]
    [[],[],[],[],[],[],[],[],[],[]]
    [[],[],[],[],[],[],[],[],[],[]] (by kernel_rfl) (by kernel_rfl) (adrawR_ok (acc:=[]) ?_)
  simp (maxSteps:=2000000)only[go_sem];repeat (with_reducible refine oD ?_)
  refine hK14 _ ?_;refine oC rfl ?_ ?_
  ·
   intro c1;have hn:nextD (cd,pt,sd)=(byteD (cd,pt,sd),cd,pt+1,seedD (cd,pt,sd)):=by simp only[nextD,decide_eq_true (show pt+1≤(cd.length:Int) from c1)]
   refine oS fun _ hK15=>?_;refine oW T_l06Look_ok ?_;simp only[go_sem];refine hK15 _ ?_;refine AWP_ret ?_;simp only[hres,go_sem]
   first
    | exact oG
    | refine ⟨oG,?_⟩
      rw [hn];simp only[seedD,lowD,hb];try ((repeat' refine And.intro ?_ ?_)<;>first | rfl | trivial | (congr 1; done))
  intro c1;have hn:nextD (cd,pt,sd)=(lowD (seedD (cd,pt,sd)),cd,pt+1,seedD (cd,pt,sd)):=by simp only[nextD,decide_eq_false (show ¬ pt+1≤(cd.length:Int) by omega)]
  refine AWP_skip ?_;simp only[go_sem];refine hK13 _ ?_;refine oS fun _ hK16=>?_;refine oW T_l06Look_ok ?_;simp (maxSteps:=2000000)only[go_sem];repeat (with_reducible refine oA ?_)
  refine hK16 _ ?_;refine AWP_ret ?_;simp only[hres,go_sem]
  first
   | exact oG
   | refine ⟨oG,?_⟩
     rw [hn];simp only[seedD,lowD,hb];try ((repeat' refine And.intro ?_ ?_)<;>first | rfl | trivial | (congr 1; done))
def T_next:Tab:=fun f=>if f=57 then some (.g K_next) else T_l06Look f
theorem T_next_ok:TabOk Tryz.prog T_next:=tabG next_ok (fnOk_of Tryz.func57 rfl (by decide)) T_l06Look_ok
attribute [go_sem] T_next K_next
def K_pick:GCon where
  ps:=[.po 0,.val (.int .i64)]
  os:=[.box [.rd ((.row 5 (.int .u8))),.rd (.int .i64),.rd (.int .u64)]]
  c:=fun x=>srcOk 2 (x.2.1.1,x.2.1.2.1,x.2.1.2.2.1)
  r:=fun x=>.c (.sc (.int .i64 ((pickD x.1.2.1 (x.2.1.1,x.2.1.2.1,x.2.1.2.2.1)).1)))
  o:=fun x=>[(30,.box [.rd [] 5 (.int .u8) ((pickD x.1.2.1 (x.2.1.1,x.2.1.2.1,x.2.1.2.2.1)).2.1),.sc (.int .i64 ((pickD x.1.2.1 (x.2.1.1,x.2.1.2.1,x.2.1.2.2.1)).2.2.1)),.sc (.int .u64 ((pickD x.1.2.1 (x.2.1.1,x.2.1.2.1,x.2.1.2.2.1)).2.2.2))])]
  ok:=by
    rintro ⟨⟨_,(m:Int),_⟩,⟨⟨(cd:List Int),(pt:Int),(sd:Int),_⟩,_⟩⟩
    exact ⟨rfl,rfl,by decide⟩
theorem pick_ok:GenT Tryz.prog 29 K_pick:=by
  refine gen_of_body Tryz.func29 rfl ?_
  have hres:Tryz.f29.results.toList=[.tmp 4]:=rfl
  rintro ⟨⟨_,(m:Int),_⟩,⟨⟨(cd:List Int),(pt:Int),(sd:Int),_⟩,_⟩⟩ hc hL hO
  simp only[K_pick,go_sem] at hL
  simp only[K_pick,go_sem] at hO
  simp only[K_pick,St.init,St.initG,Tryz.ntmps29,go_sem] 
  have hs0:srcOk 2 (cd,pt,sd):=hc
  refine oS fun _ hK1=>?_;refine oW T_next_ok ?_;simp only[go_sem];repeat (with_reducible first | refine oA ?_ | refine And.intro (by first | exact sLe) ?_)
  refine hK1 _ ?_;refine oS fun _ hK2=>?_;refine oS fun _ hK3=>?_;refine oW T_next_ok ?_;simp only[go_sem];repeat (with_reducible first | refine oA ?_ | refine And.intro (by first | exact sLe) ?_)
  refine hK3 _ ?_;refine oC rfl ?_ ?_
  ·
   intro c0;refine oS fun _ hK4=>?_;refine oW T_next_ok ?_;simp only[go_sem];repeat (with_reducible first | refine oA ?_ | refine And.intro (by first | exact sLe) ?_)
   refine hK4 _ ?_;refine AWP_ret ?_;simp only[hres,go_sem]
   first
    | exact oG
    | refine ⟨oG,?_⟩
      simp only[pickD,decide_eq_true (show m≤1 from c0)];try ((repeat' refine And.intro ?_ ?_)<;>first | rfl | trivial | (congr 1; done))
  intro c0;refine AWP_skip ?_;simp only[go_sem];refine hK2 _ ?_;refine oS fun _ hK5=>?_;rcases hr1:nextD (cd,pt,sd) with ⟨v1,u1,p1,q1⟩
  obtain ⟨hs1,hv1,hb1⟩:=nextD_at hs0 (by omega) hr1
  refine oW T_next_ok ?_;simp only[hr1,go_sem];repeat (with_reducible first | refine oA ?_ | refine And.intro (by first | exact sLe) ?_)
  refine hK5 _ ?_;refine oS fun _ hK6=>?_;refine oS fun _ hK7=>?_;refine oW T_next_ok ?_;simp only[go_sem];repeat (with_reducible first | refine oA ?_ | refine And.intro (by first | exact sLe) ?_)
  refine hK7 _ ?_;refine oC rfl ?_ ?_
  ·
   intro c1;rcases hr2:nextD (u1,p1,q1) with ⟨v2,u2,p2,q2⟩
   obtain ⟨hs2,hv2,hb2⟩:=nextD_at hs1 (by omega) hr2
   have hw1:IntKind.i64.wrap (v1 * 256)=v1 * 256:=wrapI (by omega)
   have hw2:IntKind.i64.wrap (v1 * 256+v2)=v1 * 256+v2:=wrapI (by omega)
   have hp:pickD m (cd,pt,sd)=((v1 * 256+v2).tmod m,u2,p2,q2):=by simp only[pickD,bnd,decide_eq_false (show ¬ m≤1 by omega),hr1,decide_eq_true (show 200 < m by omega),hr2]
   refine oW T_next_ok ?_;simp (maxSteps:=2000000)only[hw1,hr2,hw2,go_sem];repeat (with_reducible first | refine oA ?_ | refine And.intro (by first | exact sLe) ?_)
   refine hK6 _ ?_;refine oS fun _ hK8=>?_;refine oW T_next_ok ?_;simp only[go_sem];repeat (with_reducible first | refine oA ?_ | refine And.intro (by first | exact sLe) ?_)
   refine hK8 _ ?_;refine AWP_ret ?_;simp only[hres,go_sem]
   first
    | exact oG
    | refine ⟨oG,?_⟩
      simp only[hp];try ((repeat' refine And.intro ?_ ?_)<;>first | rfl | trivial | (congr 1; done))
  intro c1;have hp:pickD m (cd,pt,sd)=(v1.tmod m,u1,p1,q1):=by simp only[pickD,bnd,decide_eq_false (show ¬ m≤1 by omega),hr1,decide_eq_false (show ¬ 200 < m by omega)]
  refine AWP_skip ?_;simp only[go_sem];refine hK6 _ ?_;refine oS fun _ hK9=>?_;refine oW T_next_ok ?_;simp only[go_sem];repeat (with_reducible first | refine oA ?_ | refine And.intro (by first | exact sLe) ?_)
  refine hK9 _ ?_;refine AWP_ret ?_;simp only[hres,go_sem]
  first
   | exact oG
   | refine ⟨oG,?_⟩
     simp only[hp];try ((repeat' refine And.intro ?_ ?_)<;>first | rfl | trivial | (congr 1; done))
def T_pick:Tab:=fun f=>if f=29 then some (.g K_pick) else T_next f
theorem T_pick_ok:TabOk Tryz.prog T_pick:=tabG pick_ok (fnOk_of Tryz.func29 rfl (by decide)) T_next_ok
attribute [go_sem] T_pick K_pick
def K_one:GCon where
  ps:=[.po 0,.val (.int .i64)]
  os:=[.box [.rd ((.row 5 (.int .u8))),.rd (.int .i64),.rd (.int .u64)]]
  c:=fun x=>srcOk 2 (x.2.1.1,x.2.1.2.1,x.2.1.2.2.1)
  r:=fun x=>.c (.sc (.bool ((oneD x.1.2.1 (x.2.1.1,x.2.1.2.1,x.2.1.2.2.1)).1)))
  o:=fun x=>[(30,.box [.rd [] 5 (.int .u8) ((oneD x.1.2.1 (x.2.1.1,x.2.1.2.1,x.2.1.2.2.1)).2.1),.sc (.int .i64 ((oneD x.1.2.1 (x.2.1.1,x.2.1.2.1,x.2.1.2.2.1)).2.2.1)),.sc (.int .u64 ((oneD x.1.2.1 (x.2.1.1,x.2.1.2.1,x.2.1.2.2.1)).2.2.2))])]
  ok:=by
    rintro ⟨⟨_,(m:Int),_⟩,⟨⟨(cd:List Int),(pt:Int),(sd:Int),_⟩,_⟩⟩
    exact ⟨rfl,rfl,by decide⟩
theorem one_ok:GenT Tryz.prog 63 K_one:=by
  refine gen_of_body Tryz.func63 rfl ?_
  have hres:Tryz.f63.results.toList=[.tmp 4]:=rfl
  rintro ⟨⟨_,(m:Int),_⟩,⟨⟨(cd:List Int),(pt:Int),(sd:Int),_⟩,_⟩⟩ hc hL hO
  simp only[K_one,go_sem] at hL
  simp only[K_one,go_sem] at hO
  simp only[K_one,St.init,St.initG,Tryz.ntmps63,go_sem] 
  have hs0:srcOk 2 (cd,pt,sd):=hc
  rcases hr1:pickD m (cd,pt,sd) with ⟨v1,u1,p1,q1⟩
  obtain ⟨hs1,hv1,hb1,hz1⟩:=pickD_at hs0 (by omega) hr1
  have hs1:srcOk _ (u1,p1,q1):=hs1
  refine oS fun _ hK1=>?_;refine oW T_pick_ok ?_;simp only[go_sem];repeat (with_reducible first | refine oA ?_ | refine And.intro (by first | exact sLe) ?_)
  refine hK1 _ ?_;refine oS fun _ hK2=>?_;refine oW T_pick_ok ?_;simp (maxSteps:=2000000)only[hr1,go_sem];repeat (with_reducible first | refine oA ?_ | refine And.intro (by first | exact sLe) ?_)
  refine hK2 _ ?_;refine AWP_ret ?_;simp only[hres,go_sem]
  first
   | exact oG
   | refine ⟨oG,?_⟩
     simp only[show oneD m (cd,pt,sd)=(decide (v1=0),u1,p1,q1) from bnd_of hr1];try ((repeat' refine And.intro ?_ ?_)<;>first | rfl | trivial | (congr 1; done))
def T_one:Tab:=fun f=>if f=63 then some (.g K_one) else T_pick f
theorem T_one_ok:TabOk Tryz.prog T_one:=tabG one_ok (fnOk_of Tryz.func63 rfl (by decide)) T_pick_ok
attribute [go_sem] T_one K_one
def K_among:GCon where
  ps:=[.po 0,.val ((.row 2 (.int .i64)))]
  os:=[.box [.rd ((.row 5 (.int .u8))),.rd (.int .i64),.rd (.int .u64)]]
  c:=fun x=>srcOk 2 (x.2.1.1,x.2.1.2.1,x.2.1.2.2.1)∧0 < x.1.2.1.length
  r:=fun x=>.c (.sc (.int .i64 ((amongD x.1.2.1 (x.2.1.1,x.2.1.2.1,x.2.1.2.2.1)).1)))
  o:=fun x=>[(30,.box [.rd [] 5 (.int .u8) ((amongD x.1.2.1 (x.2.1.1,x.2.1.2.1,x.2.1.2.2.1)).2.1),.sc (.int .i64 ((amongD x.1.2.1 (x.2.1.1,x.2.1.2.1,x.2.1.2.2.1)).2.2.1)),.sc (.int .u64 ((amongD x.1.2.1 (x.2.1.1,x.2.1.2.1,x.2.1.2.2.1)).2.2.2))])]
  ok:=by
    rintro ⟨⟨_,(xs:List Int),_⟩,⟨⟨(cd:List Int),(pt:Int),(sd:Int),_⟩,_⟩⟩
    exact ⟨rfl,rfl,by decide⟩
theorem among_ok:GenT Tryz.prog 60 K_among:=by
  refine gen_of_body Tryz.func60 rfl ?_
  have hres:Tryz.f60.results.toList=[.tmp 4]:=rfl
  rintro ⟨⟨_,(xs:List Int),_⟩,⟨⟨(cd:List Int),(pt:Int),(sd:Int),_⟩,_⟩⟩ hc hL hO
  simp only[K_among,go_sem] at hL
  simp only[K_among,go_sem] at hO
  simp only[K_among,St.init,St.initG,Tryz.ntmps60,go_sem] 
  obtain ⟨hs0,hx⟩:=(show srcOk 2 (cd,pt,sd)∧0 < xs.length from hc)
  rcases hr1:pickD xs.length (cd,pt,sd) with ⟨v1,u1,p1,q1⟩
  obtain ⟨hs1,hv1,hb1,hz1⟩:=pickD_at hs0 (by omega) hr1
  have hs1:srcOk _ (u1,p1,q1):=hs1
  have hb1:=hb1 (by omega)
  refine oS fun _ hK1=>?_;refine oW T_one_ok ?_;simp only[go_sem];repeat (with_reducible first | refine oA ?_ | refine And.intro (by first | exact sLe) ?_)
  refine hK1 _ ?_;refine oS fun _ hK2=>?_;refine oW T_one_ok ?_;simp (maxSteps:=2000000)only[hr1,go_sem];repeat (with_reducible first | refine oA ?_ | refine And.intro (by first | exact sLe) ?_)
  refine hK2 _ ?_;refine AWP_ret ?_;simp only[hres,go_sem]
  first
   | exact oG
   | refine ⟨oG,?_⟩
     simp only[show amongD xs (cd,pt,sd)=(xs.getD v1.toNat 0,u1,p1,q1) from bnd_of hr1];try ((repeat' refine And.intro ?_ ?_)<;>first | rfl | trivial | (congr 1; done))
def T_among:Tab:=fun f=>if f=60 then some (.g K_among) else T_one f
theorem T_among_ok:TabOk Tryz.prog T_among:=tabG among_ok (fnOk_of Tryz.func60 rfl (by decide)) T_one_ok
attribute [go_sem] T_among K_among
def K_l00From:GCon where
  ps:=[.val ((.row 5 (.int .u8)))]
  os:=[]
  c:=fun _=>True
  r:=fun _=>.c (.po 10 0)
  o:=fun x=>[(10,.box [.rd [] 5 (.int .u8) (x.1.1),.sc (.int .i64 (0)),.sc (.int .u64 (0))])]
  ok:=by
    rintro ⟨⟨(cd:List Int),_⟩,_⟩
    exact ⟨rfl,rfl,by decide⟩
theorem l00From_ok:GenT Tryz.prog 13 K_l00From:=by
  refine gen_of_body Tryz.func13 rfl ?_
  have hres:Tryz.f13.results.toList=[.tmp 2]:=rfl
  rintro ⟨⟨(cd:List Int),_⟩,_⟩ hc hL hO
  simp only[K_l00From,go_sem] at hL
  simp only[K_l00From,go_sem] at hO
  simp only[K_l00From,St.init,St.initG,Tryz.ntmps13,go_sem] 
  refine oS fun _ hK1=>?_;refine oW T_among_ok ?_;simp only[go_sem];refine hK1 _ ?_;refine oS fun _ hK2=>?_;refine oW T_among_ok ?_;simp only[go_sem];refine hK2 _ ?_;refine AWP_ret ?_;simp only[hres,go_sem];first | exact oG | (refine ⟨oG,?_⟩; (repeat' refine And.intro ?_ ?_)<;>first | rfl | (congr 1; done))
def T_l00From:Tab:=fun f=>if f=13 then some (.g K_l00From) else T_among f
theorem T_l00From_ok:TabOk Tryz.prog T_l00From:=tabG l00From_ok (fnOk_of Tryz.func13 rfl (by decide)) T_among_ok
attribute [go_sem] T_l00From K_l00From
def K_l01Draw:GCon where
  ps:=[.po 0]
  os:=[.box [.rd ((.row 5 (.int .u8))),.rd (.int .i64),.rd (.int .u64)]]
  c:=fun x=>srcOk 6 (x.2.1.1,x.2.1.2.1,x.2.1.2.2.1)
  r:=fun x=>.c (.sc (.int .i64 ((l01D (x.2.1.1,x.2.1.2.1,x.2.1.2.2.1)).1)))
  o:=fun x=>[(30,.box [.rd [] 5 (.int .u8) ((l01D (x.2.1.1,x.2.1.2.1,x.2.1.2.2.1)).2.1),.sc (.int .i64 ((l01D (x.2.1.1,x.2.1.2.1,x.2.1.2.2.1)).2.2.1)),.sc (.int .u64 ((l01D (x.2.1.1,x.2.1.2.1,x.2.1.2.2.1)).2.2.2))])]
  ok:=by
    rintro ⟨⟨_,_⟩,⟨⟨(cd:List Int),(pt:Int),(sd:Int),_⟩,_⟩⟩
    exact ⟨rfl,rfl,by decide⟩
theorem l01Draw_ok:GenT Tryz.prog 108 K_l01Draw:=by
  refine gen_of_body Tryz.func108 rfl ?_
  have hres:Tryz.f108.results.toList=[.tmp 2]:=rfl
  rintro ⟨⟨_,_⟩,⟨⟨(cd:List Int),(pt:Int),(sd:Int),_⟩,_⟩⟩ hc hL hO
  simp only[K_l01Draw,go_sem] at hL
  simp only[K_l01Draw,go_sem] at hO
  simp only[K_l01Draw,St.init,St.initG,Tryz.ntmps108,go_sem] 
  have hs0:srcOk 6 (cd,pt,sd):=hc
  rcases hr1:pickD 8 (cd,pt,sd) with ⟨v1,u1,p1,q1⟩
  obtain ⟨hs1,hv1,hb1,hz1⟩:=pickD_at hs0 (by omega) hr1
  have hs1:srcOk _ (u1,p1,q1):=hs1
  refine oS fun _ hK1=>?_;refine oW T_l00From_ok ?_;simp only[go_sem];repeat (with_reducible first | refine oA ?_ | refine And.intro (by first | exact sLe | exact ⟨hs1.le (by omega),by simp⟩) ?_)
  refine hK1 _ ?_;refine oS fun _ hK2=>?_;refine oS fun _ hK3=>?_;refine oW T_l00From_ok ?_;simp only[hr1,go_sem];repeat (with_reducible first | refine oA ?_ | refine And.intro (by first | exact sLe | exact ⟨hs1.le (by omega),by simp⟩) ?_)
  refine hK3 _ ?_;refine AWP_block ?_;refine oS fun _ hK4=>?_;refine oW T_l00From_ok ?_;simp only[go_sem];repeat (with_reducible first | refine oA ?_ | refine And.intro (by first | exact sLe | exact ⟨hs1.le (by omega),by simp⟩) ?_)
  refine hK4 _ ?_;refine oC rfl ?_ ?_
  ·
   intro c0;have k0:=decide_eq_true c0
   refine oS fun _ hK5=>?_;rcases hr2:amongD [-2147483648,2147483647,-2147483647,65536,-65536,1073741824] (u1,p1,q1) with ⟨v2,u2,p2,q2⟩
   obtain ⟨hs2,hm2⟩:=amongD_at hs1 (by omega) (by simp) hr2
   refine oW T_l00From_ok ?_;simp only[hr2,go_sem];repeat (with_reducible first | refine oA ?_ | refine And.intro (by first | exact sLe | exact ⟨hs1.le (by omega),by simp⟩) ?_)
   refine hK5 _ ?_;refine AWP_ret ?_;simp only[hres,go_sem]
   first
    | exact oG
    | refine ⟨oG,?_⟩
      simp only[l01D,bnd,hr1,k0,hr2];try ((repeat' refine And.intro ?_ ?_)<;>first | rfl | trivial | (congr 1; done))
  intro c0;have k0:=decide_eq_false c0
  refine oS fun _ hK6=>?_;refine oW T_l00From_ok ?_;simp only[go_sem];repeat (with_reducible first | refine oA ?_ | refine And.intro (by first | exact sLe | exact ⟨hs1.le (by omega),by simp⟩) ?_)
  refine hK6 _ ?_;refine oC rfl ?_ ?_
  ·
   intro c1;have k1:=decide_eq_true c1
   refine oS fun _ hK7=>?_;rcases hr2:nextD (u1,p1,q1) with ⟨v2,u2,p2,q2⟩
   obtain ⟨hs2,hv2,hb2⟩:=nextD_at hs1 (by omega) hr2
   refine oW T_l00From_ok ?_;simp only[hr2,go_sem];repeat (with_reducible first | refine oA ?_ | refine And.intro (by first | exact sLe | exact ⟨hs1.le (by omega),by simp⟩) ?_)
   refine hK7 _ ?_;refine oS fun _ hK8=>?_;refine oS fun _ hK9=>?_;refine oW T_l00From_ok ?_;simp only[go_sem];repeat (with_reducible first | refine oA ?_ | refine And.intro (by first | exact sLe | exact ⟨hs1.le (by omega),by simp⟩) ?_)
   refine hK9 _ ?_;refine AWP_block ?_;refine AWP_loop_k (ι:={ k:Nat // k≤3 }) (fun k=>⟨[.c (.po 30 0),zz,zz,.c (.sc (.int .i64 ((itD wideF k.1 v2 (u2,p2,q2)).1))),.c (.sc (.int .i64 (k.1))),zz,zz,zz,zz,zz,zz,zz,zz,zz,zz,zz,zz,zz,zz,zz,zz,zz,zz,zz,zz,zz,zz,zz,zz,zz,zz,zz],[(30,.box [.rd [] 5 (.int .u8) ((itD wideF k.1 v2 (u2,p2,q2)).2.1),.sc (.int .i64 ((itD wideF k.1 v2 (u2,p2,q2)).2.2.1)),.sc (.int .u64 ((itD wideF k.1 v2 (u2,p2,q2)).2.2.2))])]⟩) (fun k=>3 - k.1) ⟨0,by omega⟩ ?_ ?_
   ·
    refine oK ?_;simp (maxSteps:=2000000)only[go_sem];all_goals ((repeat' refine And.intro ?_ ?_)<;>first | rfl | (congr 1; done))
   rintro ⟨k,hk⟩ K10 hL10
   rcases hit:itD wideF k v2 (u2,p2,q2) with ⟨v3,u3,p3,q3⟩
   have hs3:=(Cost.it wideF_cost k v2).at hs2 (by omega) hit
   refine oS fun _ hK11=>?_;refine oS fun _ hK12=>?_;refine oW T_l00From_ok ?_;simp only[hit,go_sem];repeat (with_reducible first | refine oA ?_ | refine And.intro (by first | exact sLe | exact ⟨hs1.le (by omega),by simp⟩) ?_)
   refine hK12 _ ?_;refine oC rfl ?_ ?_
   ·
    intro c2;refine AWP_skip ?_;simp only[go_sem];refine hK11 _ ?_;refine oS fun _ hK13=>?_;refine AWP_block ?_;rcases hr4:nextD (u3,p3,q3) with ⟨v4,u4,p4,q4⟩
    obtain ⟨hs4,hv4,hb4⟩:=nextD_at hs3 (by omega) hr4
    have hnx:itD wideF (k+1) v2 (u2,p2,q2)=(IntKind.i64.wrap (IntKind.i64.wrap (256 * v3)+v4),u4,p4,q4):=(itD_succ hit).trans (bnd_of hr4)
    refine oW T_l00From_ok ?_;simp (maxSteps:=2000000)only[hr4,go_sem];repeat (with_reducible first | refine oA ?_ | refine And.intro (by first | exact sLe | exact ⟨hs1.le (by omega),by simp⟩) ?_)
    refine hK13 _ ?_;refine oW T_l00From_ok ?_;simp only[go_sem];repeat (with_reducible first | refine oA ?_ | refine And.intro (by first | exact sLe | exact ⟨hs1.le (by omega),by simp⟩) ?_)
    refine hL10 ⟨k+1,by omega⟩ _ (oK ?_) ?_
    ·
     simp (maxSteps:=2000000)only[go_sem];all_goals (try simp only[hnx])
     all_goals ((repeat' refine And.intro ?_ ?_)<;>first | rfl | exact wk (by omega) | (congr 1; done))
    ·
     first | (simp only[]; omega) | omega | (simp; omega)
   intro c2;obtain rfl:k=3:=by omega
   refine AWP_exit ?_;simp only[go_sem];refine hK8 _ ?_;refine oS fun _ hK14=>?_;refine oW T_l00From_ok ?_;simp only[go_sem];repeat (with_reducible first | refine oA ?_ | refine And.intro (by first | exact sLe | exact ⟨hs1.le (by omega),by simp⟩) ?_)
   refine hK14 _ ?_;refine AWP_ret ?_;simp only[hres,go_sem]
   first
    | exact oG
    | refine ⟨oG,?_⟩
      simp only[l01D,bnd,hr1,k0,k1,hr2,hit];try ((repeat' refine And.intro ?_ ?_)<;>first | rfl | trivial | (congr 1; done))
  intro c1;have k1:=decide_eq_false c1
  refine oS fun _ hK15=>?_;refine oW T_l00From_ok ?_;simp only[go_sem];repeat (with_reducible first | refine oA ?_ | refine And.intro (by first | exact sLe | exact ⟨hs1.le (by omega),by simp⟩) ?_)
  refine hK15 _ ?_;refine oC rfl ?_ ?_
  ·
   intro c3;have k3:=decide_eq_true c3
   refine oS fun _ hK16=>?_;refine oW T_l00From_ok ?_;simp only[go_sem];repeat (with_reducible first | refine oA ?_ | refine And.intro (by first | exact sLe | exact ⟨hs1.le (by omega),by simp⟩) ?_)
   refine hK16 _ ?_;refine AWP_ret ?_;simp only[hres,go_sem]
   first
    | exact oG
    | refine ⟨oG,?_⟩
      simp only[l01D,bnd,hr1,k0,k1,k3];try ((repeat' refine And.intro ?_ ?_)<;>first | rfl | trivial | (congr 1; done))
  intro c3;have k3:=decide_eq_false c3
  refine AWP_skip ?_;simp only[go_sem];refine hK2 _ ?_;refine oS fun _ hK17=>?_;rcases hr2:pickD 41 (u1,p1,q1) with ⟨v2,u2,p2,q2⟩
  obtain ⟨hs2,hv2,hb2,hz2⟩:=pickD_at hs1 (by omega) hr2
  have hs2:srcOk _ (u2,p2,q2):=hs2
  have hw:IntKind.i64.wrap (v2 - 20)=v2 - 20:=wrapI (by omega)
  refine oW T_l00From_ok ?_;simp only[hr2,hw,go_sem];repeat (with_reducible first | refine oA ?_ | refine And.intro (by first | exact sLe | exact ⟨hs1.le (by omega),by simp⟩) ?_)
  refine hK17 _ ?_;refine AWP_ret ?_;simp only[hres,go_sem]
  first
   | exact oG
   | refine ⟨oG,?_⟩
     simp only[l01D,bnd,hr1,k0,k1,k3,hr2];try ((repeat' refine And.intro ?_ ?_)<;>first | rfl | trivial | (congr 1; done))
def T_l01Draw:Tab:=fun f=>if f=108 then some (.g K_l01Draw) else T_l00From f
theorem T_l01Draw_ok:TabOk Tryz.prog T_l01Draw:=tabG l01Draw_ok (fnOk_of Tryz.func108 rfl (by decide)) T_l00From_ok
attribute [go_sem] T_l01Draw K_l01Draw
def T_l03Bent:Tab:=T_l01Draw
theorem T_l03Bent_ok:TabOk Tryz.prog T_l03Bent:=T_l01Draw_ok
attribute [go_sem] T_l03Bent
end Go.Proofs.YtgmabhkmiokiaaaGreat
