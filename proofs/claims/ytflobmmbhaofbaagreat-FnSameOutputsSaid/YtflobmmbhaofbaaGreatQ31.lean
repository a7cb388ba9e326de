/-
  Texts of this claim, joined (part 31). No condition beyond those of the theorems.
-/
import Derived.Test.YtflobmmbhaofbaaGreatQ22
namespace Go.Proofs.YtflobmmbhaofbaaGreat
open Go.RowKit
set_option linter.unusedSimpArgs false
set_option linter.unusedVariables false
set_option maxRecDepth 100000
set_option maxHeartbeats 8000000
def A0T:Con:=⟨[.ptr (.prod (.int .i64) (.prod (.row 26 (.row 2 (.int .i64))) (.prod (.row 56 (.prod (.int .i64) (.prod (.int .i64) (.prod (.int .i64) (.row 2 (.int .i64)))))) (.row 2 (.int .i64)))))],[⟨(.row 2 (.int .i64)),true⟩,⟨.int .i64,true⟩],fun x=>uOk x.1.2.1 x.1.2.2.1,fun x=>(P9 (J7 x.1.2.1 x.1.2.2.1) x.1.2.2.1.length,(S7 (J7 x.1.2.1 x.1.2.2.1) x.1.2.2.1.length:Int))⟩
theorem B3y:D4 Tryz.prog 43 A0T:=by
  refine A7 Tryz.func43 rfl ?_
  have hres:Tryz.f43.results.toList=[.tmp 2,.tmp 3]:=rfl
  rintro⟨⟨(pi:Int),(ts:List (List Int)),(ns:List A4),(os:List Int)⟩,_⟩ hc hL
  simp only[A0T,go_sem] at hL
  simp only[A0T,St.init,St.initG,Tryz.ntmps43,go_sem] 
  have hU:uOk ts ns:=hc
  have hul:=hU.1
  have hrng:∀m q,m≤ns.length→q < m→0≤(G6 (C3 (J7 ts ns)) m).1.getD q 0:=fun m q _ hq=>by rw[w3 I1 P0 V0];exact(B0U hq).1
  have hsl:∀m,(G6 (C3 (J7 ts ns)) m).1.length=m:=fun m=>by rw[w3 I1 P0 V0];exact(Y5 _ m).len
  have hnb:∀m,0≤(G6 (C3 (J7 ts ns)) m).2∧(G6 (C3 (J7 ts ns)) m).2≤m:=fun m=>by rw[w3 I1 P0 V0];have:=Z7 ((J7 ts ns)) m;unfold S7 at this;simp only;omega
  refine oS fun _ hK1=>?_;refine oW D3 ?_;simp only[go_sem];refine hK1 _ ?_;refine oS fun _ hK2=>?_;refine oW D3 ?_;simp only[List.nodup_nil,go_sem];repeat(with_reducible refine oA ?_)
  refine hK2 _ ?_;refine oS fun _ hK3=>?_;refine oW D3 ?_;simp only[go_sem];refine hK3 _ ?_;refine oS fun _ hK4=>?_;refine oS fun _ hK5=>?_;refine oW D3 ?_;simp only[go_sem];refine hK5 _ ?_;refine A5 ?_;refine B4 (ι:={ m:Nat // m≤ns.length }) (fun k=>⟨[.c (.pt [] ((.prod (.int .i64) (.prod (.row 26 (.row 2 (.int .i64))) (.prod (.row 56 (.prod (.int .i64) (.prod (.int .i64) (.prod (.int .i64) (.row 2 (.int .i64)))))) (.row 2 (.int .i64)))))) (pi,ts,ns,os) 0),zz,zz,zz,.c (.ow 9001),.c (.sc (.int .i64 ((G6 (C3 (J7 ts ns)) k.1).2))),.c (.sc (.int .i64 (k.1))),zz,zz,zz,zz,zz,zz,zz,zz,zz,zz,zz,zz,zz,zz,zz,zz,zz,zz,zz,zz,zz,zz,zz,zz,zz,zz,zz,zz,zz,zz,zz,zz,zz,zz,zz,zz,zz,zz,zz,zz,zz,zz,zz,zz,zz,zz,zz,zz,zz,zz],[(9001,.row 2 (.int .i64) ((G6 (C3 (J7 ts ns)) k.1).1) [])]⟩) (fun k=>ns.length - k.1) ⟨0,by simp⟩ ?_ ?_
  ·
   refine oK ?_;simp (maxSteps:=2000000)only[go_sem];all_goals((repeat' refine And.intro ?_ ?_)<;>first|rfl|(congr 1;done))
  rintro⟨m,hm⟩ K6 hL6
  have hsm:=hsl m
  have hnm:=hnb m
  refine oS fun _ hK7=>?_;refine oS fun _ hK8=>?_;refine oW D3 ?_;simp (maxSteps:=2000000)only[go_sem];repeat(with_reducible refine oA ?_)
  refine hK8 _ ?_;refine oC rfl ?_ ?_
  ·
   intro c0;refine A3 ?_;simp only[go_sem];refine hK7 _ ?_;refine oS fun _ hK9=>?_;refine A5 ?_;refine oS fun _ hK10=>?_;refine oW D3 ?_;simp only[go_sem];refine hK10 _ ?_;refine oS fun _ hK11=>?_;refine oS fun _ hK12=>?_;refine oW D3 ?_;simp only[go_sem];refine hK12 _ ?_;refine A5 ?_;refine B4 (ι:={ s:Nat × Int // s.1≤m∧((s.2=-1∧∀q,q < s.1→(C3 (J7 ts ns)) q m=false)∨∃q,q < s.1∧(C3 (J7 ts ns)) q m=true∧(∀q2,q2 < q→(C3 (J7 ts ns)) q2 m=false)∧s.2=(G6 (C3 (J7 ts ns)) m).1.getD q 0) }) (fun k'=>⟨[.c (.pt [] ((.prod (.int .i64) (.prod (.row 26 (.row 2 (.int .i64))) (.prod (.row 56 (.prod (.int .i64) (.prod (.int .i64) (.prod (.int .i64) (.row 2 (.int .i64)))))) (.row 2 (.int .i64)))))) (pi,ts,ns,os) 0),zz,zz,zz,.c (.ow 9001),.c (.sc (.int .i64 ((G6 (C3 (J7 ts ns)) m).2))),.c (.sc (.int .i64 (m))),.c (.sc (.int .i64 (k'.1.2))),.c (.sc (.int .i64 (k'.1.1))),zz,zz,zz,zz,zz,zz,zz,zz,zz,zz,zz,zz,zz,zz,zz,zz,zz,zz,zz,zz,zz,zz,zz,zz,zz,zz,zz,zz,zz,zz,zz,zz,zz,zz,zz,zz,zz,zz,zz,zz,zz,zz,zz,zz,zz,zz,zz,zz],[(9001,.row 2 (.int .i64) ((G6 (C3 (J7 ts ns)) m).1) [])]⟩) (fun k'=>m - k'.1.1) ⟨(0,-1),by simp,.inl ⟨rfl,fun q hq=>absurd hq (Nat.not_lt_zero _)⟩⟩ ?_ ?_
   ·
    refine oK ?_;simp (maxSteps:=2000000)only[go_sem];all_goals((repeat' refine And.intro ?_ ?_)<;>first|rfl|(congr 1;done))
   rintro⟨⟨j,cv⟩,hj,hjp⟩ K13 hL13
   have hj:j≤m:=hj
   have hjp:(cv=-1∧∀q,q < j→(C3 (J7 ts ns)) q m=false)∨∃q,q < j∧(C3 (J7 ts ns)) q m=true∧(∀q2,q2 < q→(C3 (J7 ts ns)) q2 m=false)∧cv=(G6 (C3 (J7 ts ns)) m).1.getD q 0:=hjp
   refine oS fun _ hK14=>?_;refine oS fun _ hK15=>?_;refine oW D3 ?_;simp (maxSteps:=2000000)only[go_sem];repeat' (with_reducible first|refine oA ?_|refine oT (fun g8=>?_) (fun g8=>?_)|refine oE (fun g8=>?_) (fun g8=>?_))
   all_goals
    refine hK15 _ ?_;refine D2 rfl ?_ ?_
    ·
     intro c1;try simp only[zA,zB,zC,zD,zE,zF,zG,zH,zI] at c1
     all_goals
      have hjm:j < m:=by omega
      have hcn:cv < 0:=by first|assumption|omega
      obtain⟨hcv,hno⟩:cv=-1∧∀q,q < j→(C3 (J7 ts ns)) q m=false:=by
        rcases hjp with h|⟨q,h1,h2,h3,h4⟩
        · exact h
        · exact absurd (hrng m q (by omega) (by omega)) (by rw[←h4];omega)
      obtain⟨htj,hij⟩:=hU.2 _ (B9 (d:=((0,0,0,[]):A4)) (show j < ns.length by omega))
      obtain⟨htm,him⟩:=hU.2 _ (B9 (d:=((0,0,0,[]):A4)) (show m < ns.length by omega))
      have htj:T5 ts ((ns.getD j ((0,0,0,[]):A4)).1,(ns.getD j ((0,0,0,[]):A4)).2.1,(ns.getD j ((0,0,0,[]):A4)).2.2.1,(ns.getD j ((0,0,0,[]):A4)).2.2.2):=htj
      have htm:T5 ts ((ns.getD m ((0,0,0,[]):A4)).1,(ns.getD m ((0,0,0,[]):A4)).2.1,(ns.getD m ((0,0,0,[]):A4)).2.2.1,(ns.getD m ((0,0,0,[]):A4)).2.2.2):=htm
      refine A3 ?_;simp only[go_sem];refine hK14 _ ?_;refine oS fun _ hK16=>?_;refine A5 ?_;refine oS fun _ hK17=>?_
      refine oR D3
        [[],[],[1],[1,2],[1,2,3],[],[1,2,3,4,5],[],[7],[7,8],[7,8,9],[],[7,8,9,10,11],[0,1,2,3,4,5,6,7,8,9,10,11,12]]
        [[],[],[],[],[],[],[],[],[],[],[],[],[],[]]
        [[],[],[],[],[],[],[],[],[],[],[],[],[],[]] (by kernel_rfl) (by kernel_rfl) (B7 (acc:=[]) ?_)
      simp (maxSteps:=2000000)only[go_sem];repeat(with_reducible first|refine oD ?_|refine And.intro (by first|exact⟨htj,htm⟩|exact⟨by omega,by omega⟩) ?_)
      refine hK17 _ ?_;refine D2 rfl ?_ ?_
      ·
       intro c2;try simp only[zA,zB,zC,zD,zE,zF,zG,zH,zI] at c2
       all_goals
        have hE:(C3 (J7 ts ns)) j m=true:=by rw[C0U];assumption
        refine oW D3 ?_;simp (maxSteps:=2000000)only[go_sem];repeat(with_reducible first|refine oA ?_|refine And.intro (by first|exact⟨by omega,by omega⟩) ?_)
        refine hK16 _ ?_;refine oW D3 ?_;simp only[go_sem];first|(refine hL13 ⟨(j+1,(G6 (C3 (J7 ts ns)) m).1.getD j 0),by show j+1≤_;omega,.inr ⟨j,Nat.lt_succ_self j,hE,hno,rfl⟩⟩ _ (oK ?_) ?_)|(refine hL13 ⟨(j+1,cv),by show j+1≤_;omega,.inl ⟨hcv,fun q hq=>by rcases Nat.lt_succ_iff_lt_or_eq.1 hq with h|h;exact hno q h;subst h;exact hE⟩⟩ _ (oK ?_) ?_)
        ·
         simp (maxSteps:=2000000)only[go_sem];all_goals((repeat' refine And.intro ?_ ?_)<;>first|rfl|exact wk (by omega)|(congr 1;done))
        ·
         first|(simp only[];omega)|omega|(simp;omega)
      ·
       intro c2;try simp only[zA,zB,zC,zD,zE,zF,zG,zH,zI] at c2
       all_goals
        have hE:(C3 (J7 ts ns)) j m=false:=by rw[C0U];assumption
        refine A3 ?_;simp only[go_sem];refine hK16 _ ?_;refine oW D3 ?_;simp only[go_sem];first|(refine hL13 ⟨(j+1,(G6 (C3 (J7 ts ns)) m).1.getD j 0),by show j+1≤_;omega,.inr ⟨j,Nat.lt_succ_self j,hE,hno,rfl⟩⟩ _ (oK ?_) ?_)|(refine hL13 ⟨(j+1,cv),by show j+1≤_;omega,.inl ⟨hcv,fun q hq=>by rcases Nat.lt_succ_iff_lt_or_eq.1 hq with h|h;exact hno q h;subst h;exact hE⟩⟩ _ (oK ?_) ?_)
        ·
         simp (maxSteps:=2000000)only[go_sem];all_goals((repeat' refine And.intro ?_ ?_)<;>first|rfl|exact wk (by omega)|(congr 1;done))
        ·
         first|(simp only[];omega)|omega|(simp;omega)
    ·
     intro c1;try simp only[zA,zB,zC,zD,zE,zF,zG,zH,zI] at c1
     all_goals
      refine C2 ?_;simp only[go_sem];refine hK11 _ ?_;refine oS fun _ hK18=>?_;refine oS fun _ hK19=>?_;refine oW D3 ?_;simp only[go_sem];refine hK19 _ ?_;refine D2 rfl ?_ ?_
      ·
       intro c3;try simp only[zA,zB,zC,zD,zE,zF,zG,zH,zI] at c3
       all_goals
        have hn1:G6 (C3 (J7 ts ns)) (m+1)=((G6 (C3 (J7 ts ns)) m).1++[(G6 (C3 (J7 ts ns)) m).2],(G6 (C3 (J7 ts ns)) m).2+1):=by
          rcases hjp with⟨h1,h2⟩|⟨q,h1,h2,h3,h4⟩
          · exact A8p fun q hq=>h2 q (by first|omega|(exfalso;simp_all;done))
          · exact absurd (hrng m q (by omega) (by omega)) (by rw[←h4];omega)
        have hwn:IntKind.i64.wrap ((G6 (C3 (J7 ts ns)) m).2+1)=(G6 (C3 (J7 ts ns)) m).2+1:=G9 (by omega)
        refine oS fun _ hK20=>?_;refine oW D3 ?_;simp only[go_sem];refine hK20 _ ?_;refine oW D3 ?_;simp only[go_sem];refine hK18 _ ?_;refine oW D3 ?_;simp (maxSteps:=2000000)only[List.nodup_nil,go_sem];repeat(with_reducible first|refine oA ?_|refine And.intro (by first|omega) ?_)
        refine hK9 _ ?_;refine oW D3 ?_;simp only[go_sem];refine hL6 ⟨m+1,by omega⟩ _ (oK ?_) ?_
        ·
         simp (maxSteps:=2000000)only[go_sem];all_goals((repeat' refine And.intro ?_ ?_)<;>first|rfl|exact wk (by omega)|(rw[hn1];done)|(rw[hn1];rfl)|(rw[hn1,hwn])|(rw[hn1];exact hwn)|(congr 1;done))
        ·
         first|(simp only[];omega)|omega|(simp;omega)
      ·
       intro c3;try simp only[zA,zB,zC,zD,zE,zF,zG,zH,zI] at c3
       all_goals
        have hn1:G6 (C3 (J7 ts ns)) (m+1)=((G6 (C3 (J7 ts ns)) m).1++[cv],(G6 (C3 (J7 ts ns)) m).2):=by
          rcases hjp with⟨h1,h2⟩|⟨q,h1,h2,h3,h4⟩
          · exfalso;omega
          · rw[h4];exact B0A (by omega) h3 h2
        have hwn:True:=trivial
        refine A3 ?_;simp only[go_sem];refine hK18 _ ?_;refine oW D3 ?_;simp (maxSteps:=2000000)only[List.nodup_nil,go_sem];repeat(with_reducible first|refine oA ?_|refine And.intro (by first|omega) ?_)
        refine hK9 _ ?_;refine oW D3 ?_;simp only[go_sem];refine hL6 ⟨m+1,by omega⟩ _ (oK ?_) ?_
        ·
         simp (maxSteps:=2000000)only[go_sem];all_goals((repeat' refine And.intro ?_ ?_)<;>first|rfl|exact wk (by omega)|(rw[hn1];done)|(rw[hn1];rfl)|(rw[hn1,hwn])|(rw[hn1];exact hwn)|(congr 1;done))
        ·
         first|(simp only[];omega)|omega|(simp;omega)
  intro c0;refine C2 ?_;simp only[go_sem];refine hK4 _ ?_;refine oS fun _ hK21=>?_;refine oW D3 ?_;simp only[go_sem];refine hK21 _ ?_;refine A2 ?_;simp only[hres,go_sem]
  first
   | exact oF
   | refine ⟨?_, oF⟩
     have hk3:m=ns.length:=by omega
     clear hK1 hK2 hK3 hK4 hK5 hL6 hK7 hK8 hK21;subst hk3;rw[w3 I1 P0 V0];exact⟨rfl,rfl⟩
def A4Z:F8:=fun f=>if f=43 then some (.p A0T) else m5 f
theorem E9:B8 Tryz.prog A4Z:=F9 B3y (B6 Tryz.func43 rfl (by decide)) D3
attribute [go_sem] A4Z A0T
def r7:Con:=⟨[.ptr (.prod (.int .i64) (.prod (.row 26 (.row 2 (.int .i64))) (.prod (.row 56 (.prod (.int .i64) (.prod (.int .i64) (.prod (.int .i64) (.row 2 (.int .i64)))))) (.row 2 (.int .i64))))),.val ((.row 2 (.int .i64)))],[⟨(.row 2 (.int .i64)),true⟩,⟨.int .i64,true⟩],fun x=>uOk x.1.2.1 x.1.2.2.1∧x.2.1.length=x.1.2.2.1.length,fun x=>(P9 (Q6 x.1.2.1 x.1.2.2.1 x.2.1) x.1.2.2.1.length,(S7 (Q6 x.1.2.1 x.1.2.2.1 x.2.1) x.1.2.2.1.length:Int))⟩
theorem B25:D4 Tryz.prog 44 r7:=by
  refine A7 Tryz.func44 rfl ?_
  have hres:Tryz.f44.results.toList=[.tmp 4,.tmp 5]:=rfl
  rintro⟨⟨(pi:Int),(ts:List (List Int)),(ns:List A4),(os:List Int)⟩,(cl:List Int),_⟩ hc hL
  simp only[r7,go_sem] at hL
  simp only[r7,St.init,St.initG,Tryz.ntmps44,go_sem] 
  obtain⟨hU,hcl⟩:=(show uOk ts ns∧cl.length=ns.length from hc)
  have hul:=hU.1
  have hrng:∀m q,m≤ns.length→q < m→0≤(G6 (C3 (Q6 ts ns cl)) m).1.getD q 0:=fun m q _ hq=>by rw[w3 I1 P0 V0];exact(B0U hq).1
  have hsl:∀m,(G6 (C3 (Q6 ts ns cl)) m).1.length=m:=fun m=>by rw[w3 I1 P0 V0];exact(Y5 _ m).len
  have hnb:∀m,0≤(G6 (C3 (Q6 ts ns cl)) m).2∧(G6 (C3 (Q6 ts ns cl)) m).2≤m:=fun m=>by rw[w3 I1 P0 V0];have:=Z7 ((Q6 ts ns cl)) m;unfold S7 at this;simp only;omega
  refine oS fun _ hK1=>?_;refine oW E9 ?_;simp only[go_sem];refine hK1 _ ?_;refine oS fun _ hK2=>?_;refine oW E9 ?_;simp only[List.nodup_nil,go_sem];repeat(with_reducible refine oA ?_)
  refine hK2 _ ?_;refine oS fun _ hK3=>?_;refine oW E9 ?_;simp only[go_sem];refine hK3 _ ?_;refine oS fun _ hK4=>?_;refine oS fun _ hK5=>?_;refine oW E9 ?_;simp only[go_sem];refine hK5 _ ?_;refine A5 ?_;refine B4 (ι:={ m:Nat // m≤ns.length }) (fun k=>⟨[.c (.pt [] ((.prod (.int .i64) (.prod (.row 26 (.row 2 (.int .i64))) (.prod (.row 56 (.prod (.int .i64) (.prod (.int .i64) (.prod (.int .i64) (.row 2 (.int .i64)))))) (.row 2 (.int .i64)))))) (pi,ts,ns,os) 0),.c (.rd [] 2 (.int .i64) (cl)),zz,zz,zz,zz,.c (.ow 9001),.c (.sc (.int .i64 ((G6 (C3 (Q6 ts ns cl)) k.1).2))),.c (.sc (.int .i64 (k.1))),zz,zz,zz,zz,zz,zz,zz,zz,zz,zz,zz,zz,zz,zz,zz,zz,zz,zz,zz,zz,zz,zz,zz,zz,zz,zz,zz,zz,zz,zz,zz,zz,zz,zz,zz,zz,zz,zz,zz,zz,zz,zz,zz,zz,zz,zz,zz,zz,zz,zz,zz,zz,zz,zz,zz,zz,zz,zz,zz,zz,zz,zz],[(9001,.row 2 (.int .i64) ((G6 (C3 (Q6 ts ns cl)) k.1).1) [])]⟩) (fun k=>ns.length - k.1) ⟨0,by simp⟩ ?_ ?_
  ·
   refine oK ?_;simp (maxSteps:=2000000)only[go_sem];all_goals((repeat' refine And.intro ?_ ?_)<;>first|rfl|(congr 1;done))
  rintro⟨m,hm⟩ K6 hL6
  have hsm:=hsl m
  have hnm:=hnb m
  refine oS fun _ hK7=>?_;refine oS fun _ hK8=>?_;refine oW E9 ?_;simp (maxSteps:=2000000)only[go_sem];repeat(with_reducible refine oA ?_)
  refine hK8 _ ?_;refine oC rfl ?_ ?_
  ·
   intro c0;refine A3 ?_;simp only[go_sem];refine hK7 _ ?_;refine oS fun _ hK9=>?_;refine A5 ?_;refine oS fun _ hK10=>?_;refine oW E9 ?_;simp only[go_sem];refine hK10 _ ?_;refine oS fun _ hK11=>?_;refine oS fun _ hK12=>?_;refine oW E9 ?_;simp only[go_sem];refine hK12 _ ?_;refine A5 ?_;refine B4 (ι:={ s:Nat × Int // s.1≤m∧((s.2=-1∧∀q,q < s.1→(C3 (Q6 ts ns cl)) q m=false)∨∃q,q < s.1∧(C3 (Q6 ts ns cl)) q m=true∧(∀q2,q2 < q→(C3 (Q6 ts ns cl)) q2 m=false)∧s.2=(G6 (C3 (Q6 ts ns cl)) m).1.getD q 0) }) (fun k'=>⟨[.c (.pt [] ((.prod (.int .i64) (.prod (.row 26 (.row 2 (.int .i64))) (.prod (.row 56 (.prod (.int .i64) (.prod (.int .i64) (.prod (.int .i64) (.row 2 (.int .i64)))))) (.row 2 (.int .i64)))))) (pi,ts,ns,os) 0),.c (.rd [] 2 (.int .i64) (cl)),zz,zz,zz,zz,.c (.ow 9001),.c (.sc (.int .i64 ((G6 (C3 (Q6 ts ns cl)) m).2))),.c (.sc (.int .i64 (m))),.c (.sc (.int .i64 (k'.1.2))),.c (.sc (.int .i64 (k'.1.1))),zz,zz,zz,zz,zz,zz,zz,zz,zz,zz,zz,zz,zz,zz,zz,zz,zz,zz,zz,zz,zz,zz,zz,zz,zz,zz,zz,zz,zz,zz,zz,zz,zz,zz,zz,zz,zz,zz,zz,zz,zz,zz,zz,zz,zz,zz,zz,zz,zz,zz,zz,zz,zz,zz,zz,zz,zz,zz,zz,zz],[(9001,.row 2 (.int .i64) ((G6 (C3 (Q6 ts ns cl)) m).1) [])]⟩) (fun k'=>m - k'.1.1) ⟨(0,-1),by simp,.inl ⟨rfl,fun q hq=>absurd hq (Nat.not_lt_zero _)⟩⟩ ?_ ?_
   ·
    refine oK ?_;simp (maxSteps:=2000000)only[go_sem];all_goals((repeat' refine And.intro ?_ ?_)<;>first|rfl|(congr 1;done))
   rintro⟨⟨j,cv⟩,hj,hjp⟩ K13 hL13
   have hj:j≤m:=hj
   have hjp:(cv=-1∧∀q,q < j→(C3 (Q6 ts ns cl)) q m=false)∨∃q,q < j∧(C3 (Q6 ts ns cl)) q m=true∧(∀q2,q2 < q→(C3 (Q6 ts ns cl)) q2 m=false)∧cv=(G6 (C3 (Q6 ts ns cl)) m).1.getD q 0:=hjp
   refine oS fun _ hK14=>?_;refine oS fun _ hK15=>?_;refine oW E9 ?_;simp (maxSteps:=2000000)only[go_sem];repeat' (with_reducible first|refine oA ?_|refine oT (fun g8=>?_) (fun g8=>?_)|refine oE (fun g8=>?_) (fun g8=>?_))
   all_goals
    refine hK15 _ ?_;refine D2 rfl ?_ ?_
    ·
     intro c1;try simp only[zA,zB,zC,zD,zE,zF,zG,zH,zI] at c1
     all_goals
      have hjm:j < m:=by omega
      have hcn:cv < 0:=by first|assumption|omega
      obtain⟨hcv,hno⟩:cv=-1∧∀q,q < j→(C3 (Q6 ts ns cl)) q m=false:=by
        rcases hjp with h|⟨q,h1,h2,h3,h4⟩
        · exact h
        · exact absurd (hrng m q (by omega) (by omega)) (by rw[←h4];omega)
      obtain⟨htj,hij⟩:=hU.2 _ (B9 (d:=((0,0,0,[]):A4)) (show j < ns.length by omega))
      obtain⟨htm,him⟩:=hU.2 _ (B9 (d:=((0,0,0,[]):A4)) (show m < ns.length by omega))
      have htj:T5 ts ((ns.getD j ((0,0,0,[]):A4)).1,(ns.getD j ((0,0,0,[]):A4)).2.1,(ns.getD j ((0,0,0,[]):A4)).2.2.1,(ns.getD j ((0,0,0,[]):A4)).2.2.2):=htj
      have htm:T5 ts ((ns.getD m ((0,0,0,[]):A4)).1,(ns.getD m ((0,0,0,[]):A4)).2.1,(ns.getD m ((0,0,0,[]):A4)).2.2.1,(ns.getD m ((0,0,0,[]):A4)).2.2.2):=htm
      have hij:j9 cl.length ((ns.getD j ((0,0,0,[]):A4)).1,(ns.getD j ((0,0,0,[]):A4)).2.1,(ns.getD j ((0,0,0,[]):A4)).2.2.1,(ns.getD j ((0,0,0,[]):A4)).2.2.2):=by rw[hcl];exact hij
      have him:j9 cl.length ((ns.getD m ((0,0,0,[]):A4)).1,(ns.getD m ((0,0,0,[]):A4)).2.1,(ns.getD m ((0,0,0,[]):A4)).2.2.1,(ns.getD m ((0,0,0,[]):A4)).2.2.2):=by rw[hcl];exact him
      refine A3 ?_;simp only[go_sem];refine hK14 _ ?_;refine oS fun _ hK16=>?_;refine A5 ?_;refine oS fun _ hK17=>?_
      refine oR E9
        [[],[],[0,1],[0,1,2],[],[],[4,5],[4,5,6],[0,1,2,3,4,5,6,7],[0,1,2,3,4,5,6,7,8],[0,1,2,3,4,5,6,7,8,9],[0,1,2,3,4,5,6,7,8,9],[0,1,2,3,4,5,6,7,8,9],[0,1,2,3,4,5,6,7,8,9,12],[0,1,2,3,4,5,6,7,8,9,12,13],[0,1,2,3,4,5,6,7,8,9,12,13,14],[0,1,2,3,4,5,6,7,8,9],[0,1,2,3,4,5,6,7,8,9,12,13,14,15,16],[0,1,2,3,4,5,6,7,8,9],[0,1,2,3,4,5,6,7,8,9,18],[0,1,2,3,4,5,6,7,8,9,18,19],[0,1,2,3,4,5,6,7,8,9,18,19,20],[0,1,2,3,4,5,6,7,8,9],[0,1,2,3,4,5,6,7,8,9,18,19,20,21,22],[0,1,2,3,4,5,6,7,8,9,10,11,12,13,14,15,16,17,18,19,20,21,22,23],[0,1,2,3,4,5,6,7,8,9,10,11,12,13,14,15,16,17,18,19,20,21,22,23,24]]
        [[],[],[],[],[],[],[],[],[],[],[],[],[],[],[],[],[],[],[],[],[],[],[],[],[],[]]
        [[],[],[],[],[],[],[],[],[],[],[],[],[],[],[],[],[],[],[],[],[],[],[],[],[],[]] (by kernel_rfl) (by kernel_rfl) (B7 (acc:=[]) ?_)
      simp (maxSteps:=2000000)only[go_sem];repeat' (with_reducible first|refine oD ?_|refine And.intro (by first|exact⟨htj,htm,hij,him⟩|exact⟨by omega,by omega⟩) ?_|refine oT (fun g10=>?_) (fun g10=>?_)|refine oE (fun g10=>?_) (fun g10=>?_))
      all_goals
       refine hK17 _ ?_;refine D2 rfl ?_ ?_
       ·
        intro c2;try simp only[zA,zB,zC,zD,zE,zF,zG,zH,zI] at c2
        all_goals
         have hE:(C3 (Q6 ts ns cl)) j m=true:=by rw[B5I];clear hK1 hK2 hK3 hK4 hK5 hL6 hK7 hK8 hK9 hK10 hK11 hK12 hL13 hK14 hK15 hK16 hK17;simp_all [n0]
         refine oW E9 ?_;simp (maxSteps:=2000000)only[go_sem];repeat(with_reducible first|refine oA ?_|refine And.intro (by first|exact⟨by omega,by omega⟩) ?_)
         refine hK16 _ ?_;refine oW E9 ?_;simp only[go_sem];first|(refine hL13 ⟨(j+1,(G6 (C3 (Q6 ts ns cl)) m).1.getD j 0),by show j+1≤_;omega,.inr ⟨j,Nat.lt_succ_self j,hE,hno,rfl⟩⟩ _ (oK ?_) ?_)|(refine hL13 ⟨(j+1,cv),by show j+1≤_;omega,.inl ⟨hcv,fun q hq=>by rcases Nat.lt_succ_iff_lt_or_eq.1 hq with h|h;exact hno q h;subst h;exact hE⟩⟩ _ (oK ?_) ?_)
         ·
          simp (maxSteps:=2000000)only[go_sem];all_goals((repeat' refine And.intro ?_ ?_)<;>first|rfl|exact wk (by omega)|(congr 1;done))
         ·
          first|(simp only[];omega)|omega|(simp;omega)
       ·
        intro c2;try simp only[zA,zB,zC,zD,zE,zF,zG,zH,zI] at c2
        all_goals
         have hE:(C3 (Q6 ts ns cl)) j m=false:=by rw[B5I];clear hK1 hK2 hK3 hK4 hK5 hL6 hK7 hK8 hK9 hK10 hK11 hK12 hL13 hK14 hK15 hK16 hK17;simp_all [n0]
         refine A3 ?_;simp only[go_sem];refine hK16 _ ?_;refine oW E9 ?_;simp only[go_sem];first|(refine hL13 ⟨(j+1,(G6 (C3 (Q6 ts ns cl)) m).1.getD j 0),by show j+1≤_;omega,.inr ⟨j,Nat.lt_succ_self j,hE,hno,rfl⟩⟩ _ (oK ?_) ?_)|(refine hL13 ⟨(j+1,cv),by show j+1≤_;omega,.inl ⟨hcv,fun q hq=>by rcases Nat.lt_succ_iff_lt_or_eq.1 hq with h|h;exact hno q h;subst h;exact hE⟩⟩ _ (oK ?_) ?_)
         ·
          simp (maxSteps:=2000000)only[go_sem];all_goals((repeat' refine And.intro ?_ ?_)<;>first|rfl|exact wk (by omega)|(congr 1;done))
         ·
          first|(simp only[];omega)|omega|(simp;omega)
    ·
     intro c1;try simp only[zA,zB,zC,zD,zE,zF,zG,zH,zI] at c1
     all_goals
      refine C2 ?_;simp only[go_sem];refine hK11 _ ?_;refine oS fun _ hK18=>?_;refine oS fun _ hK19=>?_;refine oW E9 ?_;simp only[go_sem];refine hK19 _ ?_;refine D2 rfl ?_ ?_
      ·
       intro c3;try simp only[zA,zB,zC,zD,zE,zF,zG,zH,zI] at c3
       all_goals
        have hn1:G6 (C3 (Q6 ts ns cl)) (m+1)=((G6 (C3 (Q6 ts ns cl)) m).1++[(G6 (C3 (Q6 ts ns cl)) m).2],(G6 (C3 (Q6 ts ns cl)) m).2+1):=by
          rcases hjp with⟨h1,h2⟩|⟨q,h1,h2,h3,h4⟩
          · exact A8p fun q hq=>h2 q (by first|omega|(exfalso;simp_all;done))
          · exact absurd (hrng m q (by omega) (by omega)) (by rw[←h4];omega)
        have hwn:IntKind.i64.wrap ((G6 (C3 (Q6 ts ns cl)) m).2+1)=(G6 (C3 (Q6 ts ns cl)) m).2+1:=G9 (by omega)
        refine oS fun _ hK20=>?_;refine oW E9 ?_;simp only[go_sem];refine hK20 _ ?_;refine oW E9 ?_;simp only[go_sem];refine hK18 _ ?_;refine oW E9 ?_;simp (maxSteps:=2000000)only[List.nodup_nil,go_sem];repeat(with_reducible first|refine oA ?_|refine And.intro (by first|omega) ?_)
        refine hK9 _ ?_;refine oW E9 ?_;simp only[go_sem];refine hL6 ⟨m+1,by omega⟩ _ (oK ?_) ?_
        ·
         simp (maxSteps:=2000000)only[go_sem];all_goals((repeat' refine And.intro ?_ ?_)<;>first|rfl|exact wk (by omega)|(rw[hn1];done)|(rw[hn1];rfl)|(rw[hn1,hwn])|(rw[hn1];exact hwn)|(congr 1;done))
        ·
         first|(simp only[];omega)|omega|(simp;omega)
      ·
       intro c3;try simp only[zA,zB,zC,zD,zE,zF,zG,zH,zI] at c3
       all_goals
        have hn1:G6 (C3 (Q6 ts ns cl)) (m+1)=((G6 (C3 (Q6 ts ns cl)) m).1++[cv],(G6 (C3 (Q6 ts ns cl)) m).2):=by
          rcases hjp with⟨h1,h2⟩|⟨q,h1,h2,h3,h4⟩
          · exfalso;omega
          · rw[h4];exact B0A (by omega) h3 h2
        have hwn:True:=trivial
        refine A3 ?_;simp only[go_sem];refine hK18 _ ?_;refine oW E9 ?_;simp (maxSteps:=2000000)only[List.nodup_nil,go_sem];repeat(with_reducible first|refine oA ?_|refine And.intro (by first|omega) ?_)
        refine hK9 _ ?_;refine oW E9 ?_;simp only[go_sem];refine hL6 ⟨m+1,by omega⟩ _ (oK ?_) ?_
        ·
         simp (maxSteps:=2000000)only[go_sem];all_goals((repeat' refine And.intro ?_ ?_)<;>first|rfl|exact wk (by omega)|(rw[hn1];done)|(rw[hn1];rfl)|(rw[hn1,hwn])|(rw[hn1];exact hwn)|(congr 1;done))
        ·
         first|(simp only[];omega)|omega|(simp;omega)
  intro c0;refine C2 ?_;simp only[go_sem];refine hK4 _ ?_;refine oS fun _ hK21=>?_;refine oW E9 ?_;simp only[go_sem];refine hK21 _ ?_;refine A2 ?_;simp only[hres,go_sem]
  first
   | exact oF
   | refine ⟨?_, oF⟩
     have hk3:m=ns.length:=by omega
     clear hK1 hK2 hK3 hK4 hK5 hL6 hK7 hK8 hK21;subst hk3;rw[w3 I1 P0 V0];exact⟨rfl,rfl⟩
def A3G:F8:=fun f=>if f=44 then some (.p r7) else A4Z f
theorem N3:B8 Tryz.prog A3G:=F9 B25 (B6 Tryz.func44 rfl (by decide)) E9
attribute [go_sem] A3G r7
def b6:Con:=⟨[.ptr (.prod (.int .i64) (.prod (.row 26 (.row 2 (.int .i64))) (.prod (.row 56 (.prod (.int .i64) (.prod (.int .i64) (.prod (.int .i64) (.row 2 (.int .i64)))))) (.row 2 (.int .i64)))))],[⟨(.row 2 (.int .i64)),true⟩,⟨.int .i64,true⟩],fun x=>uOk x.1.2.1 x.1.2.2.1,fun x=>(H1 x.1.2.1 x.1.2.2.1,B2N x.1.2.1 x.1.2.2.1)⟩
theorem A9U:D4 Tryz.prog 19 b6:=by
  refine A7 Tryz.func19 rfl ?_
  have hres:Tryz.f19.results.toList=[.tmp 2,.tmp 3]:=rfl
  rintro⟨⟨(pi:Int),(ts:List (List Int)),(ns:List A4),(os:List Int)⟩,_⟩ hc hL
  simp only[b6,go_sem] at hL
  simp only[b6,St.init,St.initG,Tryz.ntmps19,go_sem] 
  have hU:uOk ts ns:=hc
  refine oS fun _ hK1=>?_;refine oW N3 ?_;simp only[go_sem];repeat(with_reducible first|refine oA ?_|refine And.intro (by first|exact hU|exact⟨hU,i9 _⟩) ?_)
  refine hK1 _ ?_;refine oS fun _ hK2=>?_;refine oW N3 ?_;simp (maxSteps:=2000000)only[go_sem];repeat(with_reducible first|refine oA ?_|refine And.intro (by first|exact hU|exact⟨hU,i9 _⟩) ?_)
  refine hK2 _ ?_;refine A5 ?_;refine B4 (ι:={ j:Nat // ∀q,q < j→M4 ts ns (q+1)≠M4 ts ns q }) (fun k=>⟨[.c (.pt [] ((.prod (.int .i64) (.prod (.row 26 (.row 2 (.int .i64))) (.prod (.row 56 (.prod (.int .i64) (.prod (.int .i64) (.prod (.int .i64) (.row 2 (.int .i64)))))) (.row 2 (.int .i64)))))) (pi,ts,ns,os) 0),zz,zz,zz,.c (.ow 9001),.c (.sc (.int .i64 ((A4p ts ns k.1:Int)))),zz,zz,zz,zz,zz,zz,zz,zz,zz,zz,zz,zz,zz,zz,zz,zz,zz,zz,zz,zz],[(9001,.row 2 (.int .i64) (M4 ts ns k.1) [])]⟩) (fun k=>ns.length - k.1) ⟨0,fun q hq=>absurd hq (Nat.not_lt_zero _)⟩ ?_ ?_
  ·
   refine oK ?_;simp (maxSteps:=2000000)only[go_sem];all_goals((repeat' refine And.intro ?_ ?_)<;>first|rfl|(congr 1;done))
  rintro⟨j,hj⟩ K3 hL3
  have hjn:j≤ns.length:=Nat.le_trans (A1I j hj) (A5N j)
  have hs1:P9 (Q6 ts ns (M4 ts ns j)) ns.length=M4 ts ns (j+1):=rfl
  have hs2:S7 (Q6 ts ns (M4 ts ns j)) ns.length=A4p ts ns (j+1):=rfl
  refine A5 ?_;refine oS fun _ hK4=>?_;refine oW N3 ?_;simp (maxSteps:=2000000)only[hs1,hs2,go_sem];repeat(with_reducible first|refine oA ?_|refine And.intro (by first|exact hU|exact⟨hU,i9 _⟩) ?_)
  refine hK4 _ ?_;refine oS fun _ hK5=>?_;refine oS fun _ hK6=>?_;refine oW N3 ?_;simp only[go_sem];repeat(with_reducible first|refine oA ?_|refine And.intro (by first|exact hU|exact⟨hU,i9 _⟩) ?_)
  refine hK6 _ ?_;refine oC rfl ?_ ?_
  ·
   intro c0;have hcc:A4p ts ns (j+1)=A4p ts ns j:=by omega
   have hst:M4 ts ns (j+1)=M4 ts ns j:=A9t (by omega)
   refine oS fun _ hK7=>?_;refine oW N3 ?_;simp only[go_sem];repeat(with_reducible first|refine oA ?_|refine And.intro (by first|exact hU|exact⟨hU,i9 _⟩) ?_)
   refine hK7 _ ?_;refine A2 ?_;simp only[hres,go_sem]
   first
    | exact oF
    | refine ⟨?_, oF⟩
      have e1:=B26 hjn hst
      unfold B2N;rw[e1,B61];exact⟨hst,by first|rfl|(rw[hcc])⟩
  intro c0;have hne:M4 ts ns (j+1)≠M4 ts ns j:=fun e=>by have:=B7U e;omega
  refine A3 ?_;simp only[go_sem];refine hK5 _ ?_;refine oS fun _ hK8=>?_;refine oW N3 ?_;simp only[go_sem];repeat(with_reducible first|refine oA ?_|refine And.intro (by first|exact hU|exact⟨hU,i9 _⟩) ?_)
  refine hK8 _ ?_;refine oW N3 ?_;simp only[go_sem];repeat(with_reducible first|refine oA ?_|refine And.intro (by first|exact hU|exact⟨hU,i9 _⟩) ?_)
  refine hL3 ⟨j+1,fun q hq=>by rcases Nat.lt_succ_iff_lt_or_eq.1 hq with h|h;exact hj q h;subst h;exact hne⟩ _ (oK ?_) ?_
  ·
   simp (maxSteps:=2000000)only[go_sem];all_goals((repeat' refine And.intro ?_ ?_)<;>first|rfl|(congr 1;done))
  ·
   have:=A1I (ts:=ts) (ns:=ns) (j+1) (fun q hq=>by rcases Nat.lt_succ_iff_lt_or_eq.1 hq with h|h;exact hj q h;subst h;exact hne)
   have:=A5N (ts:=ts) (ns:=ns) (j+1)
   simp only[];omega
def A2F:F8:=fun f=>if f=19 then some (.p b6) else A3G f
theorem A77:B8 Tryz.prog A2F:=F9 A9U (B6 Tryz.func19 rfl (by decide)) N3
attribute [go_sem] A2F b6
end Go.Proofs.YtflobmmbhaofbaaGreat
