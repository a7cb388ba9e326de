/-
  Texts of this claim, joined (part 11). No condition beyond those of the theorems.
-/
import Derived.Test.YtgmabhkmiokiaaaGreatVa09
import Derived.Test.YtgmabhkmiokiaaaGreatVa10
namespace Go.Proofs.YtgmabhkmiokiaaaGreat
open Go.RowKit
set_option linter.unusedSimpArgs false
set_option linter.unusedVariables false
set_option maxRecDepth 100000
set_option maxHeartbeats 4000000
def T_mHd20:Tab:=fun f=>match T_l03Bent f with
 | some k=>some k
 | none=>T_l06A f
theorem T_mHd20_ok:TabOk Tryz.prog T_mHd20:=tabM T_l03Bent_ok T_l06A_ok
attribute [go_sem] T_mHd20 T0
def K_l06DrawA:GCon where
  ps:=[.po 0,.val (.int .i64),.val (.int .i64)]
  os:=[.box [.rd ((.row 5 (.int .u8))),.rd (.int .i64),.rd (.int .u64)]]
  c:=fun x=>srcOk 6 (x.2.1.1,x.2.1.2.1,x.2.1.2.2.1)
  r:=fun x=>.c (.sc (.int .i64 (((l06DA x.1.2.1 x.1.2.2.1) (x.2.1.1,x.2.1.2.1,x.2.1.2.2.1)).1)))
  o:=fun x=>[(30,.box [.rd [] 5 (.int .u8) (((l06DA x.1.2.1 x.1.2.2.1) (x.2.1.1,x.2.1.2.1,x.2.1.2.2.1)).2.1),.sc (.int .i64 (((l06DA x.1.2.1 x.1.2.2.1) (x.2.1.1,x.2.1.2.1,x.2.1.2.2.1)).2.2.1)),.sc (.int .u64 (((l06DA x.1.2.1 x.1.2.2.1) (x.2.1.1,x.2.1.2.1,x.2.1.2.2.1)).2.2.2))])]
  ok:=by
    rintro ⟨⟨_,(kd:Int),(tb:Int),_⟩,⟨⟨(cd:List Int),(pt:Int),(sd:Int),_⟩,_⟩⟩
    exact ⟨rfl,rfl,by decide⟩
theorem l06DrawA_ok:GenT Tryz.prog 109 K_l06DrawA:=by
  refine gen_of_body Tryz.func109 rfl ?_
  have hres:Tryz.f109.results.toList=[.tmp 6]:=rfl
  rintro ⟨⟨_,(kd:Int),(tb:Int),_⟩,⟨⟨(cd:List Int),(pt:Int),(sd:Int),_⟩,_⟩⟩ hc hL hO
  simp only[K_l06DrawA,go_sem] at hL
  simp only[K_l06DrawA,go_sem] at hO
  simp only[K_l06DrawA,St.init,St.initG,Tryz.ntmps109,go_sem] 
  have hs0:srcOk 6 (cd,pt,sd):=hc
  refine oS fun _ hK1=>?_;refine oW T_mHd20_ok ?_;simp only[go_sem];repeat (with_reducible first | refine oA ?_ | refine And.intro (by first | exact sLe | exact ⟨hs0.le (by omega),by simp⟩) ?_)
  refine hK1 _ ?_;refine oS fun _ hK2=>?_;refine oS fun _ hK3=>?_;refine oW T_mHd20_ok ?_;simp only[go_sem];repeat (with_reducible first | refine oA ?_ | refine And.intro (by first | exact sLe | exact ⟨hs0.le (by omega),by simp⟩) ?_)
  refine hK3 _ ?_;refine AWP_block ?_;refine oS fun _ hK4=>?_;refine oW T_mHd20_ok ?_;simp only[go_sem];repeat (with_reducible first | refine oA ?_ | refine And.intro (by first | exact sLe | exact ⟨hs0.le (by omega),by simp⟩) ?_)
  refine hK4 _ ?_;refine oC rfl ?_ ?_
  ·
   intro c0;have k0:=decide_eq_true c0
   refine oS fun _ hK5=>?_;rcases hr1:pickD 2 (cd,pt,sd) with ⟨v1,u1,p1,q1⟩
   obtain ⟨hs1,hv1,hb1,hz1⟩:=pickD_at hs0 (by omega) hr1
   have hs1:srcOk _ (u1,p1,q1):=hs1
   refine oW T_mHd20_ok ?_;simp only[hr1,go_sem];repeat (with_reducible first | refine oA ?_ | refine And.intro (by first | exact sLe | exact ⟨hs0.le (by omega),by simp⟩) ?_)
   refine hK5 _ ?_;refine AWP_ret ?_;simp only[hres,go_sem]
   first
    | exact oG
    | refine ⟨oG,?_⟩
      simp only[l06DA,k0,hr1];try ((repeat' refine And.intro ?_ ?_)<;>first | rfl | trivial | (congr 1; done))
  intro c0;have k0:=decide_eq_false c0
  refine oS fun _ hK6=>?_;refine oW T_mHd20_ok ?_;simp only[go_sem];repeat (with_reducible first | refine oA ?_ | refine And.intro (by first | exact sLe | exact ⟨hs0.le (by omega),by simp⟩) ?_)
  refine hK6 _ ?_;refine oC rfl ?_ ?_
  ·
   intro c1;have k1:=decide_eq_true c1
   refine oS fun _ hK7=>?_;rcases hr1:pickD 4 (cd,pt,sd) with ⟨v1,u1,p1,q1⟩
   obtain ⟨hs1,hv1,hb1,hz1⟩:=pickD_at hs0 (by omega) hr1
   have hs1:srcOk _ (u1,p1,q1):=hs1
   have hb1:=hb1 (by omega)
   have hw:IntKind.i64.wrap (1+v1)=1+v1:=wrapI (by omega)
   refine oW T_mHd20_ok ?_;simp only[hr1,hw,go_sem];repeat (with_reducible first | refine oA ?_ | refine And.intro (by first | exact sLe | exact ⟨hs0.le (by omega),by simp⟩) ?_)
   refine hK7 _ ?_;refine AWP_ret ?_;simp only[hres,go_sem]
   first
    | exact oG
    | refine ⟨oG,?_⟩
      simp only[l06DA,bnd,k0,k1,hr1];try ((repeat' refine And.intro ?_ ?_)<;>first | rfl | trivial | (congr 1; done))
  intro c1;have k1:=decide_eq_false c1
  refine oS fun _ hK8=>?_;refine oW T_mHd20_ok ?_;simp only[go_sem];repeat (with_reducible first | refine oA ?_ | refine And.intro (by first | exact sLe | exact ⟨hs0.le (by omega),by simp⟩) ?_)
  refine hK8 _ ?_;refine oC rfl ?_ ?_
  ·
   intro c2;have k2:=decide_eq_true c2
   refine oS fun _ hK9=>?_;rcases hr1:amongD [1,2,0,16,31] (cd,pt,sd) with ⟨v1,u1,p1,q1⟩
   obtain ⟨hs1,hm1⟩:=amongD_at hs0 (by omega) (by simp) hr1
   refine oW T_mHd20_ok ?_;simp only[hr1,go_sem];repeat (with_reducible first | refine oA ?_ | refine And.intro (by first | exact sLe | exact ⟨hs0.le (by omega),by simp⟩) ?_)
   refine hK9 _ ?_;refine AWP_ret ?_;simp only[hres,go_sem]
   first
    | exact oG
    | refine ⟨oG,?_⟩
      simp only[l06DA,k0,k1,k2,hr1];try ((repeat' refine And.intro ?_ ?_)<;>first | rfl | trivial | (congr 1; done))
  intro c2;have k2:=decide_eq_false c2
  refine oS fun _ hK10=>?_;refine oW T_mHd20_ok ?_;simp only[go_sem];repeat (with_reducible first | refine oA ?_ | refine And.intro (by first | exact sLe | exact ⟨hs0.le (by omega),by simp⟩) ?_)
  refine hK10 _ ?_;refine oC rfl ?_ ?_
  ·
   intro c3;have k3:=decide_eq_true c3
   refine oS fun _ hK11=>?_;rcases hr1:amongD [10,0,100,2147483647] (cd,pt,sd) with ⟨v1,u1,p1,q1⟩
   obtain ⟨hs1,hm1⟩:=amongD_at hs0 (by omega) (by simp) hr1
   refine oW T_mHd20_ok ?_;simp only[hr1,go_sem];repeat (with_reducible first | refine oA ?_ | refine And.intro (by first | exact sLe | exact ⟨hs0.le (by omega),by simp⟩) ?_)
   refine hK11 _ ?_;refine AWP_ret ?_;simp only[hres,go_sem]
   first
    | exact oG
    | refine ⟨oG,?_⟩
      simp only[l06DA,k0,k1,k2,k3,hr1];try ((repeat' refine And.intro ?_ ?_)<;>first | rfl | trivial | (congr 1; done))
  intro c3;have k3:=decide_eq_false c3
  refine oS fun _ hK12=>?_;refine oW T_mHd20_ok ?_;simp only[go_sem];repeat (with_reducible first | refine oA ?_ | refine And.intro (by first | exact sLe | exact ⟨hs0.le (by omega),by simp⟩) ?_)
  refine hK12 _ ?_;refine oC rfl ?_ ?_
  ·
   intro c4;have k4:=decide_eq_true c4
   refine oS fun _ hK13=>?_;rcases hr1:pickD tb (cd,pt,sd) with ⟨v1,u1,p1,q1⟩
   obtain ⟨hs1,hv1,hb1,hz1⟩:=pickD_at hs0 (by omega) hr1
   have hs1:srcOk _ (u1,p1,q1):=hs1
   refine oW T_mHd20_ok ?_;simp only[hr1,go_sem];repeat (with_reducible first | refine oA ?_ | refine And.intro (by first | exact sLe | exact ⟨hs0.le (by omega),by simp⟩) ?_)
   refine hK13 _ ?_;refine AWP_ret ?_;simp only[hres,go_sem]
   first
    | exact oG
    | refine ⟨oG,?_⟩
      simp only[l06DA,k0,k1,k2,k3,k4,hr1];try ((repeat' refine And.intro ?_ ?_)<;>first | rfl | trivial | (congr 1; done))
  intro c4;have k4:=decide_eq_false c4
  refine AWP_skip ?_;simp only[go_sem];refine hK2 _ ?_;refine oS fun _ hK14=>?_;refine oS fun _ hK15=>?_;refine oW T_mHd20_ok ?_;simp only[go_sem];repeat (with_reducible first | refine oA ?_ | refine And.intro (by first | exact sLe | exact ⟨hs0.le (by omega),by simp⟩) ?_)
  refine hK15 _ ?_;refine oC rfl ?_ ?_
  ·
   intro c5;refine oS fun _ hK16=>?_;rcases hr1:l01D (cd,pt,sd) with ⟨v1,u1,p1,q1⟩
   have hs1:=(l01D_cost).at hs0 (by omega) hr1
   refine oW T_mHd20_ok ?_;simp only[hr1,go_sem];repeat (with_reducible first | refine oA ?_ | refine And.intro (by first | exact sLe | exact ⟨hs0.le (by omega),by simp⟩) ?_)
   refine hK16 _ ?_;refine AWP_ret ?_;simp only[hres,go_sem]
   first
    | exact oG
    | refine ⟨oG,?_⟩
      simp only[l06DA,k0,k1,k2,k3,k4,c5,hr1];try ((repeat' refine And.intro ?_ ?_)<;>first | rfl | trivial | (congr 1; done))
  intro c5;refine AWP_skip ?_;simp only[go_sem];refine hK14 _ ?_;refine oS fun _ hK17=>?_;refine oW T_mHd20_ok ?_;simp only[go_sem];repeat (with_reducible first | refine oA ?_ | refine And.intro (by first | exact sLe | exact ⟨hs0.le (by omega),by simp⟩) ?_)
  refine hK17 _ ?_;refine AWP_ret ?_;simp only[hres,go_sem]
  first
   | exact oG
   | refine ⟨oG,?_⟩
     simp only[l06DA,k0,k1,k2,k3,k4,c5];try ((repeat' refine And.intro ?_ ?_)<;>first | rfl | trivial | (congr 1; done))
def T_l06DrawA:Tab:=fun f=>if f=109 then some (.g K_l06DrawA) else T_mHd20 f
theorem T_l06DrawA_ok:TabOk Tryz.prog T_l06DrawA:=tabG l06DrawA_ok (fnOk_of Tryz.func109 rfl (by decide)) T_mHd20_ok
attribute [go_sem] T_l06DrawA K_l06DrawA
def K_l06Draw:GCon where
  ps:=[.po 0,.val (.int .i64),.val (.int .i64),.val (.int .i64)]
  os:=[.box [.rd ((.row 5 (.int .u8))),.rd (.int .i64),.rd (.int .u64)]]
  c:=fun x=>srcOk 20 (x.2.1.1,x.2.1.2.1,x.2.1.2.2.1)∧inR x.1.2.1 0 17=true
  r:=fun x=>.agg [.sc (.int .i64 (l06D x.1.2.1 x.1.2.2.1 x.1.2.2.2.1 (x.2.1.1,x.2.1.2.1,x.2.1.2.2.1)).1.1),.sc (.int .i64 (l06D x.1.2.1 x.1.2.2.1 x.1.2.2.2.1 (x.2.1.1,x.2.1.2.1,x.2.1.2.2.1)).1.2.1),.sc (.int .i64 (l06D x.1.2.1 x.1.2.2.1 x.1.2.2.2.1 (x.2.1.1,x.2.1.2.1,x.2.1.2.2.1)).1.2.2.1),.ow 10]
  o:=fun x=>[(30,.box [.rd [] 5 (.int .u8) ((l06D x.1.2.1 x.1.2.2.1 x.1.2.2.2.1 (x.2.1.1,x.2.1.2.1,x.2.1.2.2.1)).2.1),.sc (.int .i64 ((l06D x.1.2.1 x.1.2.2.1 x.1.2.2.2.1 (x.2.1.1,x.2.1.2.1,x.2.1.2.2.1)).2.2.1)),.sc (.int .u64 ((l06D x.1.2.1 x.1.2.2.1 x.1.2.2.2.1 (x.2.1.1,x.2.1.2.1,x.2.1.2.2.1)).2.2.2))]),(10,.row 2 (.int .i64) ((l06D x.1.2.1 x.1.2.2.1 x.1.2.2.2.1 (x.2.1.1,x.2.1.2.1,x.2.1.2.2.1)).1.2.2.2) [])]
  ok:=by
    rintro ⟨⟨_,(kd:Int),(tb:Int),(bl:Int),_⟩,⟨⟨(cd:List Int),(pt:Int),(sd:Int),_⟩,_⟩⟩
    exact ⟨rfl,rfl,by decide⟩
theorem l06Draw_ok:GenT Tryz.prog 62 K_l06Draw:=by
  refine gen_of_body Tryz.func62 rfl ?_
  have hres:Tryz.f62.results.toList=[.cell 8 93]:=rfl
  rintro ⟨⟨_,(kd:Int),(tb:Int),(bl:Int),_⟩,⟨⟨(cd:List Int),(pt:Int),(sd:Int),_⟩,_⟩⟩ hc hL hO
  simp only[K_l06Draw,go_sem] at hL
  simp only[K_l06Draw,go_sem] at hO
  simp only[K_l06Draw,St.init,St.initG,Tryz.ntmps62,go_sem] 
  obtain ⟨hs0,hkr⟩:=(show srcOk 20 (cd,pt,sd)∧inR kd 0 17=true from hc)
  obtain ⟨har1,har2⟩:=arL_bd kd.toNat
  rcases hr1:l06DA kd tb (cd,pt,sd) with ⟨v1,u1,p1,q1⟩
  have hs1:=(l06DA_cost kd tb).at hs0 (by omega) hr1
  refine oS fun _ hK1=>?_;refine oW T_l06DrawA_ok ?_;simp only[go_sem];repeat (with_reducible first | refine oA ?_ | refine And.intro (by first | exact sLe | exact hkr) ?_)
  refine hK1 _ ?_;refine oS fun _ hK2=>?_;refine oW T_l06DrawA_ok ?_;simp (maxSteps:=2000000)only[List.nodup_cons,List.nodup_nil,List.not_mem_nil,not_false_eq_true,hr1,go_sem];repeat (with_reducible first | refine oA ?_ | refine And.intro (by first | exact sLe | exact hkr) ?_)
  refine hK2 _ ?_;refine oS fun _ hK3=>?_;refine oS fun _ hK4=>?_;refine oW T_l06DrawA_ok ?_;simp only[go_sem];repeat (with_reducible first | refine oA ?_ | refine And.intro (by first | exact sLe | exact hkr) ?_)
  refine hK4 _ ?_;refine AWP_block ?_;refine AWP_loop_k (ι:={ k:Nat // k≤(arL.getD kd.toNat 0).toNat }) (fun k=>⟨[.c (.po 30 0),.c (.sc (.int .i64 (kd))),zz,.c (.sc (.int .i64 (bl))),zz,zz,zz,zz,.c (.po 228 0),.c (.po 244 0),.c (.sc (.int .i64 ((arL.getD kd.toNat 0) - (k.1:Int)))),zz,zz,zz,zz,zz,zz,zz,zz,zz,zz,zz,zz,zz,zz,zz,zz,zz,zz,zz,zz,zz,zz,zz,zz,zz,zz,zz,zz],[(30,.box [.rd [] 5 (.int .u8) ((itD (snocD (pickD bl)) k.1 [] (u1,p1,q1)).2.1),.sc (.int .i64 ((itD (snocD (pickD bl)) k.1 [] (u1,p1,q1)).2.2.1)),.sc (.int .u64 ((itD (snocD (pickD bl)) k.1 [] (u1,p1,q1)).2.2.2))]),(228,.box [.sc (.int .i64 (0)),.sc (.int .i64 (0)),.sc (.int .i64 (0)),.sc (.slice none 0 0)]),(244,.box [.sc (.int .i64 (kd)),.sc (.int .i64 (v1)),.sc (.int .i64 (0)),.ow 9001]),(9001,.row 2 (.int .i64) ((itD (snocD (pickD bl)) k.1 [] (u1,p1,q1)).1) [])]⟩) (fun k=>(arL.getD kd.toNat 0).toNat - k.1) ⟨0,by omega⟩ ?_ ?_
  ·
   refine oK ?_;simp (maxSteps:=2000000)only[go_sem];all_goals ((repeat' refine And.intro ?_ ?_)<;>first | rfl | omega | (simp; done) | (congr 1; done))
  rintro ⟨k,hk⟩ K5 hL5
  rcases hit:itD (snocD (pickD bl)) k [] (u1,p1,q1) with ⟨v3,u3,p3,q3⟩
  have hs3:=(Cost.it (snocD_cost (pickD_cost bl)) k []).at hs1 (by omega) hit
  have hlk:v3.length=k:=by have:=itD_len (m:=pickD bl) (k:=k) (s:=(u1,p1,q1)) (xs:=[]); rw [hit] at this; simpa using this
  refine oS fun _ hK6=>?_;refine oS fun _ hK7=>?_;refine oW T_l06DrawA_ok ?_;simp only[hit,go_sem];repeat (with_reducible first | refine oA ?_ | refine And.intro (by first | exact sLe | exact hkr) ?_)
  refine hK7 _ ?_;refine oC rfl ?_ ?_
  ·
   intro c0;refine AWP_skip ?_;simp only[go_sem];refine hK6 _ ?_;refine oS fun _ hK8=>?_;refine AWP_block ?_;rcases hr4:pickD bl (u3,p3,q3) with ⟨v4,u4,p4,q4⟩
   obtain ⟨hs4,hv4,hb4,hz4⟩:=pickD_at hs3 (by omega) hr4
   have hs4:srcOk _ (u4,p4,q4):=hs4
   have hnx:(itD (snocD (pickD bl)) (k+1) [] (u1,p1,q1))=(v3++[v4],u4,p4,q4):=(itD_succ hit).trans (bnd_of hr4)
   refine oR T_l06DrawA_ok
     [[],[0],[],[],[2,3],[2,3,4],[0,1,2,3,4,5],[0,1,2,3,4,5,6],[0,1,2,3,4,5,6,7]]
     [[30,548,549,550,551,552,553,554,555,556,557,558,559,560,561,562,563,564],[30,548,549,550,551,552,553,554,555,556,557,558,559,560,561,562,563,564],[],[],[],[],[],[],[]]
     [[],[],[],[],[30,548,549,550,551,552,553,554,555,556,557,558,559,560,561,562,563],[30,548,549,550,551,552,553,554,555,556,557,558,559,560,561,562,563,564],[],[],[]] (by kernel_rfl) (by kernel_rfl) (adrawR_ok (acc:=[]) ?_)
   simp (maxSteps:=2000000)only[hr4,go_sem];repeat (with_reducible first | refine oD ?_ | refine And.intro (by first | exact sLe | exact hkr) ?_)
   refine hK8 _ ?_;refine oW T_l06DrawA_ok ?_;simp only[go_sem];repeat (with_reducible first | refine oA ?_ | refine And.intro (by first | exact sLe | exact hkr) ?_)
   refine hL5 ⟨k+1,by omega⟩ _ (oK ?_) ?_
   ·
    simp (maxSteps:=2000000)only[go_sem];all_goals (try simp only[hnx])
    all_goals ((repeat' refine And.intro ?_ ?_)<;>first | rfl | (rw [wrapI (by omega)]; omega) | (congr 1; done))
   ·
    first | (simp only[]; omega) | omega | (simp; omega)
  intro c0;obtain rfl:k=(arL.getD kd.toNat 0).toNat:=by omega
  refine AWP_exit ?_;simp only[go_sem];refine hK3 _ ?_;refine oS fun _ hK9=>?_;refine oS fun _ hK10=>?_;refine oW T_l06DrawA_ok ?_;simp only[go_sem];repeat (with_reducible first | refine oA ?_ | refine And.intro (by first | exact sLe | exact hkr) ?_)
  refine hK10 _ ?_;refine oC rfl ?_ ?_
  ·
   intro c1;have k1:=decide_eq_true c1
   rcases hr5:pickD 3 (u3,p3,q3) with ⟨v5,u5,p5,q5⟩
   obtain ⟨hs5,hv5,hb5,hz5⟩:=pickD_at hs3 (by omega) hr5
   have hs5:srcOk _ (u5,p5,q5):=hs5
   have hb5:=hb5 (by omega)
   have hw:IntKind.i64.wrap (1+v5)=1+v5:=wrapI (by omega)
   refine oW T_l06DrawA_ok ?_;simp (maxSteps:=2000000)only[hr5,hw,go_sem];repeat (with_reducible first | refine oA ?_ | refine And.intro (by first | exact sLe | exact hkr) ?_)
   refine hK9 _ ?_;refine oS fun _ hK11=>?_;refine oW T_l06DrawA_ok ?_;simp only[go_sem];repeat (with_reducible first | refine oA ?_ | refine And.intro (by first | exact sLe | exact hkr) ?_)
   refine hK11 _ ?_;refine AWP_ret ?_;simp only[hres,go_sem]
   first
    | exact oG
    | refine ⟨oG,?_⟩
      simp only[l06D,bnd,hr1,hit];first | simp only[k1,hr5] | simp only[k1]
      try ((repeat' refine And.intro ?_ ?_)<;>first | rfl | trivial | (congr 1; done))
  intro c1;have k1:=decide_eq_false c1
  refine AWP_skip ?_;simp only[go_sem];refine hK9 _ ?_;refine oS fun _ hK12=>?_;refine oW T_l06DrawA_ok ?_;simp only[go_sem];repeat (with_reducible first | refine oA ?_ | refine And.intro (by first | exact sLe | exact hkr) ?_)
  refine hK12 _ ?_;refine AWP_ret ?_;simp only[hres,go_sem]
  first
   | exact oG
   | refine ⟨oG,?_⟩
     simp only[l06D,bnd,hr1,hit];first | simp only[k1,hr5] | simp only[k1]
     try ((repeat' refine And.intro ?_ ?_)<;>first | rfl | trivial | (congr 1; done))
def T_l06Draw:Tab:=fun f=>if f=62 then some (.g K_l06Draw) else T_l06DrawA f
theorem T_l06Draw_ok:TabOk Tryz.prog T_l06Draw:=tabG l06Draw_ok (fnOk_of Tryz.func62 rfl (by decide)) T_l06DrawA_ok
attribute [go_sem] T_l06Draw K_l06Draw
def K_l06DrawTables:GCon where
  ps:=[.po 0]
  os:=[.box [.rd ((.row 5 (.int .u8))),.rd (.int .i64),.rd (.int .u64)]]
  c:=fun x=>srcOk 102 (x.2.1.1,x.2.1.2.1,x.2.1.2.2.1)
  r:=fun x=>.c (.ow 10)
  o:=fun x=>[(30,.box [.rd [] 5 (.int .u8) ((l06T (x.2.1.1,x.2.1.2.1,x.2.1.2.2.1)).2.1),.sc (.int .i64 ((l06T (x.2.1.1,x.2.1.2.1,x.2.1.2.2.1)).2.2.1)),.sc (.int .u64 ((l06T (x.2.1.1,x.2.1.2.1,x.2.1.2.2.1)).2.2.2))]),(10,.tree 26 (.row 2 (.int .i64)) ((l06T (x.2.1.1,x.2.1.2.1,x.2.1.2.2.1)).1) none)]
  ok:=by
    rintro ⟨⟨_,_⟩,⟨⟨(cd:List Int),(pt:Int),(sd:Int),_⟩,_⟩⟩
    exact ⟨rfl,rfl,by decide⟩
theorem l06DrawTables_ok:GenT Tryz.prog 58 K_l06DrawTables:=by
  refine gen_of_body Tryz.func58 rfl ?_
  have hres:Tryz.f58.results.toList=[.tmp 2]:=rfl
  rintro ⟨⟨_,_⟩,⟨⟨(cd:List Int),(pt:Int),(sd:Int),_⟩,_⟩⟩ hc hL hO
  simp only[K_l06DrawTables,go_sem] at hL
  simp only[K_l06DrawTables,go_sem] at hO
  simp only[K_l06DrawTables,St.init,St.initG,Tryz.ntmps58,go_sem] 
  have hs0:srcOk 102 (cd,pt,sd):=hc
  rcases hr1:pickD 2 (cd,pt,sd) with ⟨v1,u1,p1,q1⟩
  obtain ⟨hs1,hv1,hb1,hz1⟩:=pickD_at hs0 (by omega) hr1
  have hs1:srcOk _ (u1,p1,q1):=hs1
  have hb1:=hb1 (by omega)
  have hw:IntKind.i64.wrap (1+v1)=1+v1:=wrapI (by omega)
  refine oS fun _ hK1=>?_;refine oW T_l06Draw_ok ?_;simp only[go_sem];repeat (with_reducible first | refine oA ?_ | refine And.intro (by first | exact sLe | exact ⟨hs3.le (by omega),by simp⟩) ?_)
  refine hK1 _ ?_;refine oS fun _ hK2=>?_;refine oW T_l06Draw_ok ?_;simp only[List.nodup_cons,List.nodup_nil,List.not_mem_nil,not_false_eq_true,go_sem];repeat (with_reducible first | refine oA ?_ | refine And.intro (by first | exact sLe | exact ⟨hs3.le (by omega),by simp⟩) ?_)
  refine hK2 _ ?_;refine oS fun _ hK3=>?_;refine oS fun _ hK4=>?_;refine oW T_l06Draw_ok ?_;simp only[hr1,hw,go_sem];repeat (with_reducible first | refine oA ?_ | refine And.intro (by first | exact sLe | exact ⟨hs3.le (by omega),by simp⟩) ?_)
  refine hK4 _ ?_;refine AWP_block ?_;refine AWP_loop_k (ι:={ k:Nat // k≤(1+v1).toNat }) (fun k=>⟨[.c (.po 30 0),zz,zz,.c (.ow 9001),.c (.sc (.int .i64 (1+v1 - (k.1:Int)))),zz,zz,zz,zz,zz,zz,zz,zz,zz,zz,zz,zz,zz,zz,zz,zz,zz,zz,zz,zz,zz,zz,zz,zz,zz,zz,zz,zz],[(30,.box [.rd [] 5 (.int .u8) ((itD tabS k.1 [] (u1,p1,q1)).2.1),.sc (.int .i64 ((itD tabS k.1 [] (u1,p1,q1)).2.2.1)),.sc (.int .u64 ((itD tabS k.1 [] (u1,p1,q1)).2.2.2))]),(9001,.tree 26 (.row 2 (.int .i64)) ((itD tabS k.1 [] (u1,p1,q1)).1) none)]⟩) (fun k=>(1+v1).toNat - k.1) ⟨0,by omega⟩ ?_ ?_
  ·
   refine oK ?_;simp (maxSteps:=2000000)only[go_sem];all_goals ((repeat' refine And.intro ?_ ?_)<;>first | rfl | omega | (simp; done) | (congr 1; done))
  rintro ⟨k,hk⟩ K5 hL5
  rcases hit:itD tabS k [] (u1,p1,q1) with ⟨v3,u3,p3,q3⟩
  have hs3:=(Cost.it tabS_cost k []).at hs1 (by omega) hit
  have hlk:v3.length=k:=by have:=tabS_len (k:=k) (s:=(u1,p1,q1)) (ts:=[]); rw [hit] at this; simpa using this
  refine oS fun _ hK6=>?_;refine oS fun _ hK7=>?_;refine oW T_l06Draw_ok ?_;simp only[hit,go_sem];repeat (with_reducible first | refine oA ?_ | refine And.intro (by first | exact sLe | exact ⟨hs3.le (by omega),by simp⟩) ?_)
  refine hK7 _ ?_;refine oC rfl ?_ ?_
  ·
   intro c0;refine AWP_skip ?_;simp only[go_sem];refine hK6 _ ?_;refine oS fun _ hK8=>?_;refine AWP_block ?_;refine oS fun _ hK9=>?_;refine oW T_l06Draw_ok ?_;simp only[go_sem];repeat (with_reducible first | refine oA ?_ | refine And.intro (by first | exact sLe | exact ⟨hs3.le (by omega),by simp⟩) ?_)
   refine hK9 _ ?_;refine oS fun _ hK10=>?_;refine oS fun _ hK11=>?_;rcases hr4:amongD [2,4,8,4] (u3,p3,q3) with ⟨v4,u4,p4,q4⟩
   obtain ⟨hs4,hm4⟩:=amongD_at hs3 (by omega) (by simp) hr4
   have hv4:2≤v4∧v4≤8:=by simp at hm4; omega
   refine oW T_l06Draw_ok ?_;simp only[hr4,go_sem];repeat (with_reducible first | refine oA ?_ | refine And.intro (by first | exact sLe | exact ⟨hs3.le (by omega),by simp⟩) ?_)
   refine hK11 _ ?_;refine AWP_block ?_;refine AWP_loop_k (ι:={ m:Nat // m≤v4.toNat }) (fun k'=>⟨[.c (.po 30 0),zz,zz,.c (.ow 9001),.c (.sc (.int .i64 (1+v1 - (k:Int)))),.c (.ow 9002),.c (.sc (.int .i64 (v4 - (k'.1:Int)))),zz,zz,zz,zz,zz,zz,zz,zz,zz,zz,zz,zz,zz,zz,zz,zz,zz,zz,zz,zz,zz,zz,zz,zz,zz,zz],[(30,.box [.rd [] 5 (.int .u8) ((itD (snocD l01D) k'.1 [] (u4,p4,q4)).2.1),.sc (.int .i64 ((itD (snocD l01D) k'.1 [] (u4,p4,q4)).2.2.1)),.sc (.int .u64 ((itD (snocD l01D) k'.1 [] (u4,p4,q4)).2.2.2))]),(9001,.tree 26 (.row 2 (.int .i64)) (v3) none),(9002,.row 2 (.int .i64) ((itD (snocD l01D) k'.1 [] (u4,p4,q4)).1) [])]⟩) (fun k'=>v4.toNat - k'.1) ⟨0,by omega⟩ ?_ ?_
   ·
    refine oK ?_;simp (maxSteps:=2000000)only[go_sem];all_goals ((repeat' refine And.intro ?_ ?_)<;>first | rfl | omega | (simp; done) | (congr 1; done))
   rintro ⟨m,hm⟩ K12 hL12
   rcases hiu:itD (snocD l01D) m [] (u4,p4,q4) with ⟨v5,u5,p5,q5⟩
   have hs5:=(Cost.it (snocD_cost l01D_cost) m []).at hs4 (by omega) hiu
   have hlm:v5.length=m:=by have:=itD_len (m:=l01D) (k:=m) (s:=(u4,p4,q4)) (xs:=[]); rw [hiu] at this; simpa using this
   refine oS fun _ hK13=>?_;refine oS fun _ hK14=>?_;refine oW T_l06Draw_ok ?_;simp only[hiu,go_sem];repeat (with_reducible first | refine oA ?_ | refine And.intro (by first | exact sLe | exact ⟨hs3.le (by omega),by simp⟩) ?_)
   refine hK14 _ ?_;refine oC rfl ?_ ?_
   ·
    intro c1;refine AWP_skip ?_;simp only[go_sem];refine hK13 _ ?_;refine oS fun _ hK15=>?_;refine AWP_block ?_;rcases hr6:l01D (u5,p5,q5) with ⟨v6,u6,p6,q6⟩
    have hs6:=(l01D_cost).at hs5 (by omega) hr6
    have hnu:(itD (snocD l01D) (m+1) [] (u4,p4,q4))=(v5++[v6],u6,p6,q6):=(itD_succ hiu).trans (bnd_of hr6)
    refine oW T_l06Draw_ok ?_;simp (maxSteps:=2000000)only[hr6,go_sem];repeat (with_reducible first | refine oA ?_ | refine And.intro (by first | exact sLe | exact ⟨hs3.le (by omega),by simp⟩) ?_)
    refine hK15 _ ?_;refine oW T_l06Draw_ok ?_;simp only[go_sem];repeat (with_reducible first | refine oA ?_ | refine And.intro (by first | exact sLe | exact ⟨hs3.le (by omega),by simp⟩) ?_)
    refine hL12 ⟨m+1,by omega⟩ _ (oK ?_) ?_
    ·
     simp (maxSteps:=2000000)only[go_sem];all_goals (try simp only[hnu])
     all_goals ((repeat' refine And.intro ?_ ?_)<;>first | rfl | (rw [wrapI (by omega)]; omega) | (congr 1; done))
    ·
     first | (simp only[]; omega) | omega | (simp; omega)
   intro c1;refine AWP_exit ?_;simp only[go_sem];refine hK10 _ ?_;obtain rfl:m=v4.toNat:=by omega
   have hnx:(itD tabS (k+1) [] (u1,p1,q1))=(v3++[v5],u5,p5,q5):=(itD_succ hit).trans (by simp only[tabS,tabD,bnd,hr4,hiu])
   refine oW T_l06Draw_ok ?_;simp (maxSteps:=2000000)only[List.nodup_cons,List.nodup_nil,List.not_mem_nil,not_false_eq_true,go_sem];repeat (with_reducible first | refine oA ?_ | refine And.intro (by first | exact sLe | exact ⟨hs3.le (by omega),by simp⟩) ?_)
   refine hK8 _ ?_;refine oW T_l06Draw_ok ?_;simp only[go_sem];repeat (with_reducible first | refine oA ?_ | refine And.intro (by first | exact sLe | exact ⟨hs3.le (by omega),by simp⟩) ?_)
   refine hL5 ⟨k+1,by omega⟩ _ (oK ?_) ?_
   ·
    simp (maxSteps:=2000000)only[go_sem];all_goals (try simp only[hnx])
    all_goals ((repeat' refine And.intro ?_ ?_)<;>first | rfl | (rw [wrapI (by omega)]; omega) | (congr 1; done))
   ·
    first | (simp only[]; omega) | omega | (simp; omega)
  intro c0;obtain rfl:k=(1+v1).toNat:=by omega
  refine AWP_exit ?_;simp only[go_sem];refine hK3 _ ?_;refine oS fun _ hK16=>?_;refine oW T_l06Draw_ok ?_;simp only[go_sem];repeat (with_reducible first | refine oA ?_ | refine And.intro (by first | exact sLe | exact ⟨hs3.le (by omega),by simp⟩) ?_)
  refine hK16 _ ?_;refine AWP_ret ?_;simp only[hres,go_sem]
  first
   | exact oG
   | refine ⟨oG,?_⟩
     simp only[l06T,bnd,hr1,hit];try ((repeat' refine And.intro ?_ ?_)<;>first | rfl | trivial | (congr 1; done))
def T_l06DrawTables:Tab:=fun f=>if f=58 then some (.g K_l06DrawTables) else T_l06Draw f
theorem T_l06DrawTables_ok:TabOk Tryz.prog T_l06DrawTables:=tabG l06DrawTables_ok (fnOk_of Tryz.func58 rfl (by decide)) T_l06Draw_ok
attribute [go_sem] T_l06DrawTables K_l06DrawTables
def K_l07Kinds:Con:=⟨[.val (.bool)],[⟨(.row 2 (.int .i64)),true⟩],fun _=>True,fun x=>kindsD x.1⟩
theorem l07Kinds_ok:PureT Tryz.prog 59 K_l07Kinds:=by
  refine pure_of_body Tryz.func59 rfl ?_
  have hres:Tryz.f59.results.toList=[.tmp 2]:=rfl
  rintro ⟨(li:Bool),_⟩ hc hL
  simp only[K_l07Kinds,go_sem] at hL
  simp only[K_l07Kinds,St.init,St.initG,Tryz.ntmps59,go_sem] 
  refine oS fun _ hK1=>?_;refine oW T_l06DrawTables_ok ?_;simp only[go_sem];refine hK1 _ ?_;refine oS fun _ hK2=>?_;refine oS fun _ hK3=>?_;refine oW T_l06DrawTables_ok ?_;simp only[go_sem];refine hK3 _ ?_;refine oC rfl ?_ ?_
  ·
   intro c0;refine oS fun _ hK4=>?_;refine oW T_l06DrawTables_ok ?_;simp only[go_sem];repeat (with_reducible refine oA ?_)
   refine hK4 _ ?_;refine AWP_ret ?_;simp only[hres,go_sem];first | exact oF | (refine ⟨?_,oF⟩; subst c0; rfl)
  intro c0;refine AWP_skip ?_;simp only[go_sem];refine hK2 _ ?_;refine oS fun _ hK5=>?_;refine oW T_l06DrawTables_ok ?_;simp only[go_sem];repeat (with_reducible refine oA ?_)
  refine hK5 _ ?_;refine AWP_ret ?_;simp only[hres,go_sem];first | exact oF | (refine ⟨?_,oF⟩; subst c0; rfl)
def T_l07Kinds:Tab:=fun f=>if f=59 then some (.p K_l07Kinds) else T_l06DrawTables f
theorem T_l07Kinds_ok:TabOk Tryz.prog T_l07Kinds:=tabP l07Kinds_ok (fnOk_of Tryz.func59 rfl (by decide)) T_l06DrawTables_ok
attribute [go_sem] T_l07Kinds K_l07Kinds
end Go.Proofs.YtgmabhkmiokiaaaGreat
