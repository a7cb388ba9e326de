/-
  Texts of this claim, joined (part 24). No condition beyond those of the theorems.
-/
import Derived.Test.YtflaacndokbddaaGreatVd15
import Derived.Test.YtflaacndokbddaaGreatVd23
namespace Go.Proofs.YtflaacndokbddaaGreat
open Go.RowKit
set_option linter.unusedSimpArgs false
set_option linter.unusedVariables false
set_option maxRecDepth 100000
set_option maxHeartbeats 8000000
def K_l09Draw:GCon where
  ps:=[.po 0]
  os:=[.box [.rd ((.row 5 (.int .u8))),.rd (.int .i64),.rd (.int .u64)]]
  c:=fun x=>srcOk 1304 (x.2.1.1,x.2.1.2.1,x.2.1.2.2.1)
  r:=fun x=>.agg [.sc (.int .i64 (linD (x.2.1.1,x.2.1.2.1,x.2.1.2.2.1)).1.1),.ow 10,.ow 11,.ow 12]
  o:=fun x=>[(30,.box [.rd [] 5 (.int .u8) ((linD (x.2.1.1,x.2.1.2.1,x.2.1.2.2.1)).2.1),.sc (.int .i64 ((linD (x.2.1.1,x.2.1.2.1,x.2.1.2.2.1)).2.2.1)),.sc (.int .u64 ((linD (x.2.1.1,x.2.1.2.1,x.2.1.2.2.1)).2.2.2))]),(10,.tree 26 (.row 2 (.int .i64)) ((linD (x.2.1.1,x.2.1.2.1,x.2.1.2.2.1)).1.2.1) none),(11,.tree 90 ((.prod (.int .i64) (.prod (.int .i64) (.prod (.int .i64) (.row 2 (.int .i64)))))) ((linD (x.2.1.1,x.2.1.2.1,x.2.1.2.2.1)).1.2.2.1) none),(12,.row 2 (.int .i64) ((linD (x.2.1.1,x.2.1.2.1,x.2.1.2.2.1)).1.2.2.2) [])]
  ok:=by
    rintro ⟨⟨_,_⟩,⟨⟨(cd:List Int),(pt:Int),(sd:Int),_⟩,_⟩⟩
    exact ⟨rfl,rfl,by decide⟩
theorem l09Draw_ok:GenT Tryz.prog 83 K_l09Draw:=by
  refine gen_of_body Tryz.func83 rfl ?_
  have hres:Tryz.f83.results.toList=[.cell 2 28]:=rfl
  rintro ⟨⟨_,_⟩,⟨⟨(cd:List Int),(pt:Int),(sd:Int),_⟩,_⟩⟩ hc hL hO
  simp only[K_l09Draw,go_sem] at hL
  simp only[K_l09Draw,go_sem] at hO
  simp only[K_l09Draw,St.init,St.initG,Tryz.ntmps83,go_sem] 
  have hs0:srcOk 1304 (cd,pt,sd):=hc
  rcases hr1:pickD 2 (cd,pt,sd) with ⟨v1,u1,p1,q1⟩
  obtain ⟨hs1,hv1,hb1,hz1⟩:=pickD_at hs0 (by omega) hr1
  have hs1:srcOk _ (u1,p1,q1):=hs1
  rcases hr2:pickD 2 (u1,p1,q1) with ⟨v2,u2,p2,q2⟩
  obtain ⟨hs2,hv2,hb2,hz2⟩:=pickD_at hs1 (by omega) hr2
  have hs2:srcOk _ (u2,p2,q2):=hs2
  have hb1:=hb1 (by omega)
  have hb2:=hb2 (by omega)
  have hw1:IntKind.i64.wrap (1+v1)=1+v1:=wrapI (by omega)
  have hw2:IntKind.i64.wrap (1+v2)=1+v2:=wrapI (by omega)
  rcases hr3:l07D (1+v1) (1+v2) 9 true (u2,p2,q2) with ⟨⟨pi,ts,ns,os⟩,u3,p3,q3⟩
  have zq1:0≤1+v1:=by omega
  have zq2:1+v1≤4:=by omega
  have zq3:0≤1+v2:=by omega
  have zq4:1+v2≤4:=by omega
  have zq5:(1:Int)≤9:=by omega
  have zq6:(9:Int)≤20:=by omega
  refine oS fun _ hK1=>?_
  refine oW T_l07Draw_ok ?_
  simp only[go_sem]
  repeat (with_reducible first | refine oA ?_ | refine And.intro (by first | exact sLe | with_unfolding_all exact ⟨hs2.le (by omega),zq1,zq2,zq3,zq4,zq5,zq6⟩) ?_)
  refine hK1 _ ?_
  refine oS fun _ hK2=>?_
  refine oW T_l07Draw_ok ?_
  simp only[hr1,hw1,go_sem]
  repeat (with_reducible first | refine oA ?_ | refine And.intro (by first | exact sLe | with_unfolding_all exact ⟨hs2.le (by omega),zq1,zq2,zq3,zq4,zq5,zq6⟩) ?_)
  refine hK2 _ ?_
  refine oS fun _ hK3=>?_
  refine oW T_l07Draw_ok ?_
  simp only[hr2,hw2,go_sem]
  repeat (with_reducible first | refine oA ?_ | refine And.intro (by first | exact sLe | with_unfolding_all exact ⟨hs2.le (by omega),zq1,zq2,zq3,zq4,zq5,zq6⟩) ?_)
  refine hK3 _ ?_
  refine oS fun _ hK4=>?_
  refine oW T_l07Draw_ok ?_
  simp (maxSteps:=2000000)only[List.nodup_cons,List.nodup_nil,List.not_mem_nil,not_false_eq_true,hr3,go_sem]
  repeat (with_reducible first | refine oA ?_ | refine And.intro (by first | exact sLe | with_unfolding_all exact ⟨hs2.le (by omega),zq1,zq2,zq3,zq4,zq5,zq6⟩) ?_)
  refine hK4 _ ?_
  refine AWP_ret ?_
  simp only[hres,go_sem]
  first
   | exact oG
   | refine ⟨oG,?_⟩
     have hq:linD (cd,pt,sd)=((pi,ts,ns,os),u3,p3,q3):=by simp only[linD,bnd,hr1,hr2,hr3]
     simp only[hq]
     try ((repeat' refine And.intro ?_ ?_)<;>first | rfl | trivial | (congr 1; done))
def T_l09Draw:Tab:=fun f=>if f=83 then some (.g K_l09Draw) else T_l07Draw f
theorem T_l09Draw_ok:TabOk Tryz.prog T_l09Draw:=tabG l09Draw_ok (fnOk_of Tryz.func83 rfl (by decide)) T_l07Draw_ok
attribute [go_sem] T_l09Draw K_l09Draw
def K_e8Linear:Con:=⟨[.val ((.row 5 (.int .u8)))],[⟨(.prod (.int .i64) (.prod (.row 26 (.row 2 (.int .i64))) (.prod (.row 90 (.prod (.int .i64) (.prod (.int .i64) (.prod (.int .i64) (.row 2 (.int .i64)))))) (.row 2 (.int .i64))))),false⟩],fun x=>∀ b∈(x.1:List Int),0≤b∧b≤255,fun x=>linC x.1⟩
theorem e8Linear_ok:PureT Tryz.prog 32 K_e8Linear:=by
  refine pure_of_body Tryz.func32 rfl ?_
  have hres:Tryz.f32.results.toList=[.cell 2 28]:=rfl
  rintro ⟨(cd:List Int),_⟩ hc hL
  simp only[K_e8Linear,go_sem] at hL
  simp only[K_e8Linear,St.init,St.initG,Tryz.ntmps32,go_sem] 
  have hcd :∀b∈cd,0≤b∧b≤255:=hc
  have hs0:srcOk 3000 (cd,0,0):=⟨hcd,by simp,by simp⟩
  rcases hr1:linD (cd,0,0) with ⟨⟨pi,ts,ns,os⟩,u1,p1,q1⟩
  refine oS fun _ hK1=>?_
  refine oW T_l09Draw_ok ?_
  simp only[go_sem]
  repeat (with_reducible first | refine oA ?_ | refine And.intro (by first | exact hs0.le (by omega) | with_unfolding_all exact hs0.le (by omega)) ?_)
  refine hK1 _ ?_
  refine oS fun _ hK2=>?_
  refine oW T_l09Draw_ok ?_
  simp only[go_sem]
  repeat (with_reducible first | refine oA ?_ | refine And.intro (by first | exact hs0.le (by omega) | with_unfolding_all exact hs0.le (by omega)) ?_)
  refine hK2 _ ?_
  refine oS fun _ hK3=>?_
  refine oW T_l09Draw_ok ?_
  simp only[List.nodup_cons,List.nodup_nil,List.not_mem_nil,not_false_eq_true,hr1,go_sem]
  repeat (with_reducible first | refine oA ?_ | refine And.intro (by first | exact hs0.le (by omega) | with_unfolding_all exact hs0.le (by omega)) ?_)
  refine hK3 _ ?_
  refine AWP_wk (Wk_freeB _ 212 (by decide)) ?_
  simp (maxSteps:=2000000)only[go_sem]
  refine AWP_wk (Wk_freeB _ 213 (by decide)) ?_
  simp (maxSteps:=2000000)only[go_sem]
  refine AWP_wk (Wk_freeR _ 214 (by decide)) ?_
  simp (maxSteps:=2000000)only[go_sem]
  refine AWP_ret ?_
  simp only[hres,go_sem]
  first
   | exact oF
   | refine ⟨?_,oF⟩
     have hq:linC cd=(pi,ts,ns,os):=by simp only[linC,hr1]
     simp only[hq]
     try ((repeat' refine And.intro ?_ ?_)<;>first | rfl | trivial | (congr 1; done))
def T_e8Linear:Tab:=fun f=>if f=32 then some (.p K_e8Linear) else T_l09Draw f
theorem T_e8Linear_ok:TabOk Tryz.prog T_e8Linear:=tabP e8Linear_ok (fnOk_of Tryz.func32 rfl (by decide)) T_l09Draw_ok
attribute [go_sem] T_e8Linear K_e8Linear
def K_l09Samp:GCon where
  ps:=[.po 0,.val (.int .i64)]
  os:=[.box [.rd ((.row 5 (.int .u8))),.rd (.int .i64),.rd (.int .u64)]]
  c:=fun x=>srcOk 72 (x.2.1.1,x.2.1.2.1,x.2.1.2.2.1)∧(0:Int)≤x.1.2.1∧(x.1.2.1:Int)≤12
  r:=fun x=>.c (.ow 10)
  o:=fun x=>[(30,.box [.rd [] 5 (.int .u8) ((smpD x.1.2.1 (x.2.1.1,x.2.1.2.1,x.2.1.2.2.1)).2.1),.sc (.int .i64 ((smpD x.1.2.1 (x.2.1.1,x.2.1.2.1,x.2.1.2.2.1)).2.2.1)),.sc (.int .u64 ((smpD x.1.2.1 (x.2.1.1,x.2.1.2.1,x.2.1.2.2.1)).2.2.2))]),(10,.row 2 (.int .i64) ((smpD x.1.2.1 (x.2.1.1,x.2.1.2.1,x.2.1.2.2.1)).1) [])]
  ok:=by
    rintro ⟨⟨_,(mo:Int),_⟩,⟨⟨(cd:List Int),(pt:Int),(sd:Int),_⟩,_⟩⟩
    exact ⟨rfl,rfl,by decide⟩
theorem l09Samp_ok:GenT Tryz.prog 87 K_l09Samp:=by
  refine gen_of_body Tryz.func87 rfl ?_
  have hres:Tryz.f87.results.toList=[.tmp 4]:=rfl
  rintro ⟨⟨_,(mo:Int),_⟩,⟨⟨(cd:List Int),(pt:Int),(sd:Int),_⟩,_⟩⟩ hc hL hO
  simp only[K_l09Samp,go_sem] at hL
  simp only[K_l09Samp,go_sem] at hO
  simp only[K_l09Samp,St.init,St.initG,Tryz.ntmps87,go_sem] 
  obtain ⟨hs0,hm1,hm2⟩:=(show srcOk 72 (cd,pt,sd)∧0≤mo∧mo≤12 from hc)
  refine oS fun _ hK1=>?_
  refine oW T_e8Linear_ok ?_
  simp only[go_sem]
  repeat (with_reducible first | refine oA ?_ | refine And.intro (by first | exact sLe) ?_)
  refine hK1 _ ?_
  refine oS fun _ hK2=>?_
  refine oW T_e8Linear_ok ?_
  simp only[List.nodup_nil,go_sem]
  repeat (with_reducible first | refine oA ?_ | refine And.intro (by first | exact sLe) ?_)
  refine hK2 _ ?_
  refine oS fun _ hK3=>?_
  refine oS fun _ hK4=>?_
  refine oW T_e8Linear_ok ?_
  simp only[go_sem]
  repeat (with_reducible first | refine oA ?_ | refine And.intro (by first | exact sLe) ?_)
  refine hK4 _ ?_
  refine AWP_block ?_
  refine AWP_loop_k (ι:={ k:Nat // k≤mo.toNat }) (fun k=>⟨[.c (.po 30 0),.c (.sc (.int .i64 (mo))),zz,zz,zz,.c (.ow 9001),.c (.sc (.int .i64 (k.1))),zz,zz,zz,zz,zz,zz,zz,zz,zz,zz,zz,zz],[(30,.box [.rd [] 5 (.int .u8) ((itD (snocD l01D) k.1 [] (cd,pt,sd)).2.1),.sc (.int .i64 ((itD (snocD l01D) k.1 [] (cd,pt,sd)).2.2.1)),.sc (.int .u64 ((itD (snocD l01D) k.1 [] (cd,pt,sd)).2.2.2))]),(9001,.row 2 (.int .i64) ((itD (snocD l01D) k.1 [] (cd,pt,sd)).1) [])]⟩) (fun k=>mo.toNat - k.1) ⟨0,by omega⟩ ?_ ?_
  ·
   refine oK ?_
   simp (maxSteps:=2000000)only[go_sem]
   all_goals ((repeat' refine And.intro ?_ ?_)<;>first | rfl | omega | (simp; done) | (congr 1; done))
  rintro ⟨k,hk⟩ K5 hL5
  rcases hit:itD (snocD l01D) k [] (cd,pt,sd) with ⟨v3,u3,p3,q3⟩
  have hs3:=(Cost.it (snocD_cost l01D_cost) k []).at hs0 (by omega) hit
  have hlk:v3.length=k:=by have:=itD_len (m:=l01D) (k:=k) (s:=(cd,pt,sd)) (xs:=[]); rw [hit] at this; simpa using this
  refine oS fun _ hK6=>?_
  refine oS fun _ hK7=>?_
  refine oW T_e8Linear_ok ?_
  simp only[hit,go_sem]
  repeat (with_reducible first | refine oA ?_ | refine And.intro (by first | exact sLe) ?_)
  refine hK7 _ ?_
  refine oC rfl ?_ ?_
  ·
   intro c0
   refine AWP_skip ?_
   simp only[go_sem]
   refine hK6 _ ?_
   refine oS fun _ hK8=>?_
   refine AWP_block ?_
   rcases hr4:l01D (u3,p3,q3) with ⟨v4,u4,p4,q4⟩
   have hs4:=(l01D_cost).at hs3 (by omega) hr4
   have hnx:itD (snocD l01D) (k+1) [] (cd,pt,sd)=(v3++[v4],u4,p4,q4):=(itD_succ hit).trans (bnd_of hr4)
   refine oW T_e8Linear_ok ?_
   simp (maxSteps:=2000000)only[hr4,hlk,go_sem]
   repeat (with_reducible first | refine oA ?_ | refine And.intro (by first | exact sLe) ?_)
   refine hK8 _ ?_
   refine oW T_e8Linear_ok ?_
   simp only[go_sem]
   repeat (with_reducible first | refine oA ?_ | refine And.intro (by first | exact sLe) ?_)
   refine hL5 ⟨k+1,by omega⟩ _ (oK ?_) ?_
   ·
    simp (maxSteps:=2000000)only[go_sem]
    all_goals (try simp only[hnx])
    all_goals ((repeat' refine And.intro ?_ ?_)<;>first | rfl | trivial | exact wk (by omega) | (congr 1; done))
   ·
    first | (simp only[]; omega) | omega | (simp; omega)
  intro c0
  obtain rfl:k=mo.toNat:=by omega
  refine AWP_exit ?_
  simp only[go_sem]
  refine hK3 _ ?_
  refine oS fun _ hK9=>?_
  refine oW T_e8Linear_ok ?_
  simp only[go_sem]
  repeat (with_reducible first | refine oA ?_ | refine And.intro (by first | exact sLe) ?_)
  refine hK9 _ ?_
  refine AWP_ret ?_
  simp only[hres,go_sem]
  first
   | exact oG
   | refine ⟨oG,?_⟩
     simp only[smpD,hit]
     try ((repeat' refine And.intro ?_ ?_)<;>first | rfl | trivial | (congr 1; done))
def T_l09Samp:Tab:=fun f=>if f=87 then some (.g K_l09Samp) else T_e8Linear f
theorem T_l09Samp_ok:TabOk Tryz.prog T_l09Samp:=tabG l09Samp_ok (fnOk_of Tryz.func87 rfl (by decide)) T_e8Linear_ok
attribute [go_sem] T_l09Samp K_l09Samp
def K_e8Inputs:Con:=⟨[.val ((.row 5 (.int .u8))),.val ((.prod (.int .i64) (.prod (.row 26 (.row 2 (.int .i64))) (.prod (.row 90 (.prod (.int .i64) (.prod (.int .i64) (.prod (.int .i64) (.row 2 (.int .i64)))))) (.row 2 (.int .i64))))))],[⟨(.row 26 (.row 2 (.int .i64))),true⟩],fun x=>(∀ b∈(x.1:List Int),0≤b∧b≤255)∧(0≤x.2.1.1∧x.2.1.1≤4),fun x=>inpL x.1 (Int.toNat x.2.1.1)⟩
theorem e8Inputs_ok:PureT Tryz.prog 36 K_e8Inputs:=by
  refine pure_of_body Tryz.func36 rfl ?_
  have hres:Tryz.f36.results.toList=[.tmp 4]:=rfl
  rintro ⟨(mr:List Int),⟨(pi:Int),(ts:List (List Int)),(ns:List NodeD),(os:List Int)⟩,_⟩ hc hL
  simp only[K_e8Inputs,go_sem] at hL
  simp only[K_e8Inputs,St.init,St.initG,Tryz.ntmps36,go_sem] 
  obtain ⟨hmr,hp0,hp4⟩:=(show (∀ b∈mr,0≤b∧b≤255)∧(0≤pi∧pi≤4) from hc)
  have hs0:srcOk 1000 (mr,0,0):=⟨hmr,by simp,by simp⟩
  have h12a:(0:Int)≤12:=by omega
  have h12b:(12:Int)≤12:=by omega
  refine oS fun _ hK1=>?_
  refine oW T_l09Samp_ok ?_
  simp only[go_sem]
  repeat (with_reducible first | refine oA ?_ | refine And.intro (by first | exact ⟨hs3.le (by omega),h12a,h12b⟩ | with_unfolding_all exact ⟨hs3.le (by omega),h12a,h12b⟩) ?_)
  refine hK1 _ ?_
  refine oS fun _ hK2=>?_
  refine oW T_l09Samp_ok ?_
  simp only[go_sem]
  repeat (with_reducible first | refine oA ?_ | refine And.intro (by first | exact ⟨hs3.le (by omega),h12a,h12b⟩ | with_unfolding_all exact ⟨hs3.le (by omega),h12a,h12b⟩) ?_)
  refine hK2 _ ?_
  refine oS fun _ hK3=>?_
  refine oW T_l09Samp_ok ?_
  simp only[List.nodup_nil,go_sem]
  repeat (with_reducible first | refine oA ?_ | refine And.intro (by first | exact ⟨hs3.le (by omega),h12a,h12b⟩ | with_unfolding_all exact ⟨hs3.le (by omega),h12a,h12b⟩) ?_)
  refine hK3 _ ?_
  refine oS fun _ hK4=>?_
  refine oS fun _ hK5=>?_
  refine oW T_l09Samp_ok ?_
  simp only[go_sem]
  repeat (with_reducible first | refine oA ?_ | refine And.intro (by first | exact ⟨hs3.le (by omega),h12a,h12b⟩ | with_unfolding_all exact ⟨hs3.le (by omega),h12a,h12b⟩) ?_)
  refine hK5 _ ?_
  refine AWP_block ?_
  refine AWP_loop_k (ι:={ k:Nat // k≤pi.toNat }) (fun k=>⟨[zz,zz,zz,.c (.po 148 0),zz,.c (.po 244 0),.c (.ow 9006),.c (.sc (.int .i64 (k.1))),zz,zz,zz,zz,zz,zz,zz,zz,zz,zz,zz,zz,zz,zz,zz],[(148,.box [.sc (.int .i64 (pi)),.rd [] 26 ((.row 2 (.int .i64))) (ts),.rd [] 90 ((.prod (.int .i64) (.prod (.int .i64) (.prod (.int .i64) (.row 2 (.int .i64)))))) (ns),.rd [] 2 (.int .i64) (os)]),(244,.box [.rd [] 5 (.int .u8) ((itD inpS k.1 [] (mr,0,0)).2.1),.sc (.int .i64 ((itD inpS k.1 [] (mr,0,0)).2.2.1)),.sc (.int .u64 ((itD inpS k.1 [] (mr,0,0)).2.2.2))]),(9006,.tree 26 (.row 2 (.int .i64)) ((itD inpS k.1 [] (mr,0,0)).1) none)]⟩) (fun k=>pi.toNat - k.1) ⟨0,by omega⟩ ?_ ?_
  ·
   refine oK ?_
   simp (maxSteps:=2000000)only[go_sem]
   all_goals ((repeat' refine And.intro ?_ ?_)<;>first | rfl | omega | (simp; done) | (congr 1; done))
  rintro ⟨k,hk⟩ K6 hL6
  rcases hit:itD inpS k [] (mr,0,0) with ⟨v3,u3,p3,q3⟩
  have hs3:=(Cost.it inpS_cost k []).at hs0 (by omega) hit
  have hlk:v3.length=k:=(inp_draw k hs0 (by omega) hit).1
  refine oS fun _ hK7=>?_
  refine oS fun _ hK8=>?_
  refine oW T_l09Samp_ok ?_
  simp only[hit,go_sem]
  repeat (with_reducible first | refine oA ?_ | refine And.intro (by first | exact ⟨hs3.le (by omega),h12a,h12b⟩ | with_unfolding_all exact ⟨hs3.le (by omega),h12a,h12b⟩) ?_)
  refine hK8 _ ?_
  refine oC rfl ?_ ?_
  ·
   intro c0
   refine AWP_skip ?_
   simp only[go_sem]
   refine hK7 _ ?_
   refine oS fun _ hK9=>?_
   refine AWP_block ?_
   rcases hr4:smpD 12 (u3,p3,q3) with ⟨v4,u4,p4,q4⟩
   have hs4:=(smpD_cost).at hs3 (by omega) hr4
   have hnx:(itD inpS (k+1) [] (mr,0,0))=(v3++[v4],u4,p4,q4):=(itD_succ hit).trans (bnd_of hr4)
   refine oW T_l09Samp_ok ?_
   simp (maxSteps:=2000000)only[List.nodup_cons,List.nodup_nil,List.not_mem_nil,not_false_eq_true,hr4,hlk,go_sem]
   repeat (with_reducible first | refine oA ?_ | refine And.intro (by first | exact ⟨hs3.le (by omega),h12a,h12b⟩ | with_unfolding_all exact ⟨hs3.le (by omega),h12a,h12b⟩) ?_)
   refine hK9 _ ?_
   refine oW T_l09Samp_ok ?_
   simp only[go_sem]
   repeat (with_reducible first | refine oA ?_ | refine And.intro (by first | exact ⟨hs3.le (by omega),h12a,h12b⟩ | with_unfolding_all exact ⟨hs3.le (by omega),h12a,h12b⟩) ?_)
   refine hL6 ⟨k+1,by omega⟩ _ (oK ?_) ?_
   ·
    simp (maxSteps:=2000000)only[go_sem]
    all_goals (try simp only[hnx])
    all_goals ((repeat' refine And.intro ?_ ?_)<;>first | rfl | trivial | exact wk (by omega) | (congr 1; done))
   ·
    first | (simp only[]; omega) | omega | (simp; omega)
  intro c0
  obtain rfl:k=pi.toNat:=by omega
  refine AWP_exit ?_
  simp only[go_sem]
  refine hK4 _ ?_
  refine oS fun _ hK10=>?_
  refine oW T_l09Samp_ok ?_
  simp only[go_sem]
  repeat (with_reducible first | refine oA ?_ | refine And.intro (by first | exact ⟨hs3.le (by omega),h12a,h12b⟩ | with_unfolding_all exact ⟨hs3.le (by omega),h12a,h12b⟩) ?_)
  refine hK10 _ ?_
  refine AWP_ret ?_
  simp only[hres,go_sem]
  first
   | exact oF
   | refine ⟨?_,oF⟩
     simp only[inpL,hit]
     try ((repeat' refine And.intro ?_ ?_)<;>first | rfl | trivial | (congr 1; done))
def T_e8Inputs:Tab:=fun f=>if f=36 then some (.p K_e8Inputs) else T_l09Samp f
theorem T_e8Inputs_ok:TabOk Tryz.prog T_e8Inputs:=tabP e8Inputs_ok (fnOk_of Tryz.func36 rfl (by decide)) T_l09Samp_ok
attribute [go_sem] T_e8Inputs K_e8Inputs
end Go.Proofs.YtflaacndokbddaaGreat
