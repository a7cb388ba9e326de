/-
  Texts of this claim, joined (part 23). No condition beyond those of the theorems.
-/
import Derived.Test.YtgaogcnfijbahaaGreatQ22
import Derived.Test.YtgaogcnfijbahaaGreatQ09
namespace Go.Proofs.YtgaogcnfijbahaaGreat
open Go.RowKit
set_option linter.unusedSimpArgs false
set_option linter.unusedVariables false
set_option maxRecDepth 100000
set_option maxHeartbeats 8000000
def A2P:E4:=A2g
theorem A8B:B4 Tryz.prog A2P:=A4q
attribute [go_sem] A2P
set_option maxRecDepth 100000
set_option maxHeartbeats 8000000
def A6d:Con:=⟨[.ptr (.prod (.int .i64) (.prod (.int .i64) (.prod (.int .i64) (.row 2 (.int .i64))))),.val (.int .i64)],[⟨.bool,true⟩],fun _=>True,fun x=>M6 x.1 x.2.1⟩
theorem C4B:C9 Tryz.prog 65 A6d:=by
  refine A4 Tryz.func65 rfl ?_
  have hres:Tryz.f65.results.toList=[.tmp 4]:=rfl
  rintro⟨⟨(kd:Int),(a:Int),(bb:Int),(fr:List Int)⟩,(tb:Int),_⟩ hc hL
  simp only[A6d,go_sem] at hL
  simp only[A6d,St.init,St.initG,Tryz.ntmps65,go_sem] 
  rw[←B1P];refine oS fun _ hK1=>?_;refine oW G9 ?_;simp only[go_sem];refine hK1 _ ?_;refine b8 (A5N kd a bb fr tb=(fr.all (fun f=>J3 f 0 23) && (match decide (kd=17) with|true=>J3 bb 1 16|false=>decide (bb=0)))) ⟨[.c (.pt [] ((.prod (.int .i64) (.prod (.int .i64) (.prod (.int .i64) (.row 2 (.int .i64)))))) (kd,a,bb,fr) 0),zz,zz,zz,zz,zz,zz,zz,zz,zz,zz,zz,zz,zz,zz,zz,zz,zz,zz,zz,zz,zz,zz,zz,zz,zz,zz,zz,zz,zz,zz,zz,zz,zz,zz,zz,zz,zz,zz,zz,zz,zz,zz,zz,zz,zz,zz,zz,zz,zz,zz,zz,zz,zz,zz,zz,zz,zz,zz,zz,zz,zz,zz,zz],[]⟩ ?_ fun _ hK2=>?_
  ·
   intro hN;refine oS fun _ hK3=>?_;refine oS fun _ hK4=>?_;refine oW G9 ?_;simp only[go_sem];refine hK4 _ ?_;refine A1 ?_;refine A7 (ι:={ k:Nat // k≤fr.length∧(fr.take k).all (fun f=>J3 f 0 23)=true }) (fun k=>⟨[.c (.pt [] ((.prod (.int .i64) (.prod (.int .i64) (.prod (.int .i64) (.row 2 (.int .i64)))))) (kd,a,bb,fr) 0),zz,zz,zz,zz,.c (.sc (.int .i64 (k.1))),zz,zz,zz,zz,zz,zz,zz,zz,zz,zz,zz,zz,zz,zz,zz,zz,zz,zz,zz,zz,zz,zz,zz,zz,zz,zz,zz,zz,zz,zz,zz,zz,zz,zz,zz,zz,zz,zz,zz,zz,zz,zz,zz,zz,zz,zz,zz,zz,zz,zz,zz,zz,zz,zz,zz,zz,zz,zz],[]⟩) (fun k=>fr.length - k.1) ⟨0,by simp⟩ ?_ ?_
   ·
    refine oK ?_;simp (maxSteps:=2000000)only[go_sem];all_goals(first|rfl|((repeat' refine And.intro ?_ ?_)<;>first|rfl|simp))
   rintro⟨k,hk,hp⟩ K5 hL5
   refine oS fun _ hK6=>?_;refine oS fun _ hK7=>?_;refine oW G9 ?_;simp (maxSteps:=2000000)only[go_sem];repeat(with_reducible refine oA ?_)
   refine hK7 _ ?_;refine oC rfl ?_ ?_
   ·
    intro c1;refine A2 ?_;simp only[go_sem];refine hK6 _ ?_;refine oS fun _ hK8=>?_;refine A1 ?_;refine oS fun _ hK9=>?_;refine oW G9 ?_;simp (maxSteps:=2000000)only[go_sem];repeat(with_reducible refine oA ?_)
    refine hK9 _ ?_;refine oC rfl ?_ ?_
    ·
     intro c2;refine oS fun _ hK10=>?_;refine oW G9 ?_;simp only[go_sem];refine hK10 _ ?_;refine A0 ?_;simp only[hres,go_sem];first|exact oF|(refine⟨?_,oF⟩;rw[hN,N5 (k:=k) (d:=0) (by omega) (by assumption)];rfl)
    intro c2;refine A2 ?_;simp only[go_sem];refine hK8 _ ?_;refine oW G9 ?_;simp only[go_sem];refine hL5 ⟨k+1,by omega,L6 (d:=0) (by omega) hp (by first|assumption|(clear hK1 hK3 hK4 hL5 hK6 hK7 hK8 hK9;simp_all))⟩ _ (oK ?_) ?_
    ·
     simp (maxSteps:=2000000)only[go_sem];first|rfl|exact wk (by omega)
    ·
     first|(simp only[];omega)|omega|(simp;omega)
   intro c1;refine B6 ?_;simp only[go_sem];refine hK3 _ ?_;refine oS fun _ hK11=>?_;refine oS fun _ hK12=>?_;refine oW G9 ?_;simp (maxSteps:=2000000)only[go_sem];repeat(with_reducible refine oA ?_)
   refine hK12 _ ?_;refine oC rfl ?_ ?_
   ·
    intro c3;refine oS fun _ hK13=>?_;refine oW G9 ?_;simp (maxSteps:=2000000)only[go_sem];repeat(with_reducible refine oA ?_)
    refine hK13 _ ?_;refine A0 ?_;simp only[hres,go_sem];first|exact oF|(refine⟨?_,oF⟩;rw[hN,L3 hp (by omega),Bool.true_and,decide_eq_true (show kd=17 by assumption)])
   intro c3;refine A2 ?_;simp only[go_sem];refine hK11 _ ?_;refine oS fun _ hK14=>?_;refine oW G9 ?_;simp (maxSteps:=2000000)only[go_sem];repeat(with_reducible refine oA ?_)
   refine hK14 _ ?_;refine A0 ?_;simp only[hres,go_sem];first|exact oF|(refine⟨?_,oF⟩;rw[hN,L3 hp (by omega),Bool.true_and,decide_eq_false (show ¬kd=17 by assumption)])
  refine oS fun _ hK15=>?_
  refine oR G9
    [[],[0],[0,1],[0,1,2],[0,1,2,3],[0,1,2,3,4],[0,1,2,3,4,5],[0,1,2,3,4,5,6],[0,1,2,3,4,5,6],[0,1,2,3,4,5,6,7,8],[0,1,2,3,4,5,6,7,8,9],[0,1,2,3,4,5,6,7,8,9,10],[0,1,2,3,4,5,6,7,8,9,10,11],[0,1,2,3,4,5,6,7,8,9,10,11,12],[0,1,2,3,4,5,6,7,8,9,10,11,12,13],[0,1,2,3,4,5,6,7,8,9,10,11,12,13,14],[0,1,2,3,4,5,6,7,8,9,10,11,12,13,14,15],[0,1,2,3,4,5,6,7,8,9,10,11,12,13,14,15,16],[0,1,2,3,4,5,6,7,8,9,10,11,12],[0,1,2,3,4,5,6,7,8,9,10,11,12,18],[0,1,2,3,4,5,6,7,8,9,10,11,12,18,19],[0,1,2,3,4,5,6,7,8,9,10,11,12,18,19,20],[0,1,2,3,4,5,6,7,8,9,10,11,12,18,19,20,21],[0,1,2,3,4,5,6,7,8,9,10,11,12,13,14,15,16,17,18,19,20,21,22],[0,1,2,3,4,5,6,7,8,9,10,11,12,13,14,15,16,17,18,19,20,21,22,23]]
    [[],[],[],[],[],[],[],[],[],[],[],[],[],[],[],[],[],[],[],[],[],[],[],[],[]]
    [[],[],[],[],[],[],[],[],[],[],[],[],[],[],[],[],[],[],[],[],[],[],[],[],[]] (by kernel_rfl) (by kernel_rfl) (A9 (acc:=[]) ?_)
  simp (maxSteps:=2000000)only[go_sem];repeat' (with_reducible first|refine oD ?_|refine And.intro (by first|exact C1.2 (by have:=C1.1 (show J3 kd 1 17=true by clear hK1 hK2 hK15;simp_all);omega)) ?_|refine oT (fun g1=>?_) (fun g1=>?_)|refine oE (fun g1=>?_) (fun g1=>?_))
  all_goals
   refine hK15 _ ?_;refine E2 rfl ?_ ?_
   ·
    intro c0;try simp only[zA,zB,zC,zD,zE,zF,zG,zH,zI] at c0
    all_goals
     refine oS fun _ hK16=>?_;refine oW G9 ?_;simp only[go_sem];refine hK16 _ ?_;refine A0 ?_;simp only[hres,go_sem];first|exact oF|(refine⟨?_,oF⟩;clear hK1 hK2 hK15 hK16;simp_all [A5N])
   ·
    intro c0;try simp only[zA,zB,zC,zD,zE,zF,zG,zH,zI] at c0
    all_goals
     refine A2 ?_;simp only[go_sem];refine hK2 _ (oK ?_) ?_
     ·
      simp (maxSteps:=2000000)only[go_sem];all_goals(first|rfl|((repeat' refine And.intro ?_ ?_)<;>first|rfl|exact wk (by omega)|simp))
     ·
      clear hK1 hK2 hK15;simp_all [A5N]<;>rfl
def A8S:E4:=fun f=>if f=65 then some (.p A6d) else A56 f
theorem B0g:B4 Tryz.prog A8S:=E3 C4B (B0 Tryz.func65 rfl (by decide)) G9
attribute [go_sem] A8S A6d
set_option maxRecDepth 100000
set_option maxHeartbeats 1000000
def w9:Con:=⟨[.val ((.row 26 (.row 2 (.int .i64))))],[⟨.bool,true⟩],fun _=>True,fun x=>A05 x.1⟩
theorem B2g:C9 Tryz.prog 64 w9:=by
  refine A4 Tryz.func64 rfl ?_
  have hres:Tryz.f64.results.toList=[.tmp 2]:=rfl
  rintro⟨(xs:List (List Int)),_⟩ hc hL
  simp only[w9,go_sem] at hL
  obtain⟨lxs,lxs2⟩:=hL;simp only[w9,St.init,St.initG,Tryz.ntmps64,go_sem] 
  refine oS fun _ hK1=>?_;refine oW G9 ?_;simp only[go_sem];refine hK1 _ ?_;refine oS fun _ hK2=>?_;refine oS fun _ hK3=>?_;refine oW G9 ?_;simp only[go_sem];refine hK3 _ ?_;refine A1 ?_;refine A7 (ι:={ k:Nat // k≤xs.length∧(xs.take k).all A6z=true }) (fun k=>⟨[.c (.rd [] 26 (.row 2 (.int .i64)) (xs)),zz,zz,.c (.sc (.int .i64 (k.1))),zz,zz,zz,zz,zz,zz,zz,zz,zz,zz,zz,zz,zz,zz,zz,zz,zz,zz,zz,zz,zz,zz,zz,zz,zz],[]⟩) (fun k=>xs.length - k.1) ⟨0,by simp⟩ ?_ ?_
  ·
   refine oK ?_;simp (maxSteps:=2000000)only[go_sem];all_goals(first|rfl|((repeat' refine And.intro ?_ ?_)<;>first|rfl|simp))
  rintro⟨k,hk,hp⟩ K4 hL4
  refine oS fun _ hK5=>?_;refine oS fun _ hK6=>?_;refine oW G9 ?_;simp only[go_sem];refine hK6 _ ?_;refine oC rfl ?_ ?_
  ·
   intro c0;refine A2 ?_;simp only[go_sem];refine hK5 _ ?_;refine oS fun _ hK7=>?_;refine A1 ?_;refine oS fun _ hK8=>?_;refine oW G9 ?_;simp (maxSteps:=2000000)only[go_sem];repeat' (with_reducible first|refine oA ?_|refine oT (fun g4=>?_) (fun g4=>?_)|refine oE (fun g4=>?_) (fun g4=>?_))
   all_goals
    refine hK8 _ ?_;refine E2 rfl ?_ ?_
    ·
     intro c1;try simp only[zA,zB,zC,zD,zE,zF,zG,zH,zI] at c1
     all_goals
      refine oS fun _ hK9=>?_;refine oW G9 ?_;simp only[go_sem];refine hK9 _ ?_;refine A0 ?_;simp only[hres,go_sem]
      first
       | exact oF
       | refine ⟨?_, oF⟩
         have hq:A6z (xs.getD k [])=false:=by rw[←C2N];clear hK1 hK2 hK3 hL4 hK5 hK6 hK7 hK8 hK9;simp_all
         rw[A05,N5 (k:=k) (d:=[]) (by omega) hq];rfl
    ·
     intro c1;try simp only[zA,zB,zC,zD,zE,zF,zG,zH,zI] at c1
     all_goals
      have hq:A6z (xs.getD k [])=true:=by rw[←C2N];clear hK1 hK2 hK3 hL4 hK5 hK6 hK7 hK8;simp_all
      refine A2 ?_;simp only[go_sem];refine hK7 _ ?_;refine oW G9 ?_;simp only[go_sem];refine hL4 ⟨k+1,by omega,L6 (d:=[]) (by omega) hp (by first|assumption|(clear hK1 hK2 hK3 hL4 hK5 hK6 hK7 hK8;simp_all))⟩ _ (oK ?_) ?_
      ·
       simp (maxSteps:=2000000)only[go_sem];first|rfl|exact wk (by omega)
      ·
       first|(simp only[];omega)|omega|(simp;omega)
  intro c0;refine B6 ?_;simp only[go_sem];refine hK2 _ ?_;refine oS fun _ hK10=>?_;refine oW G9 ?_;simp only[go_sem];refine hK10 _ ?_;refine A0 ?_;simp only[hres,go_sem];first|exact oF|(refine⟨?_,oF⟩;rw[A05,L3 hp (by omega),Bool.true_and];exact decide_eq_decide.2 (by omega))
def A3i:E4:=fun f=>if f=64 then some (.p w9) else A56 f
theorem X0:B4 Tryz.prog A3i:=E3 B2g (B0 Tryz.func64 rfl (by decide)) G9
attribute [go_sem] A3i w9
def A0l:Con:=⟨[.ptr (.prod (.int .i64) (.prod (.int .i64) (.prod (.int .i64) (.row 2 (.int .i64)))))],[⟨(.row 2 (.int .i64)),false⟩],fun _=>True,fun x=>J5 x.1⟩
theorem B4W:C9 Tryz.prog 68 A0l:=by
  refine A4 Tryz.func68 rfl ?_
  have hres:Tryz.f68.results.toList=[.tmp 2]:=rfl
  rintro⟨⟨(kd:Int),(a:Int),(bb:Int),(fr:List Int)⟩,_⟩ hc hL
  simp only[A0l,go_sem] at hL
  simp only[A0l,St.init,St.initG,Tryz.ntmps68,go_sem] 
  refine oS fun _ hK1=>?_;refine oW X0 ?_;simp only[go_sem];refine hK1 _ ?_;refine oS fun _ hK2=>?_;refine oS fun _ hK3=>?_;refine oW X0 ?_;simp (maxSteps:=2000000)only[go_sem];repeat(with_reducible refine oA ?_)
  refine hK3 _ ?_;refine oC rfl ?_ ?_
  ·
   intro c0;refine oS fun _ hK4=>?_;refine oW X0 ?_;simp only[go_sem];repeat(with_reducible refine oA ?_)
   refine hK4 _ ?_;refine H8 (C4m _ 228 (by decide)) ?_;simp (maxSteps:=2000000)only[go_sem];refine A0 ?_;simp only[hres,go_sem];first|exact oF|(refine⟨?_,oF⟩;clear hK1 hK2 hK3 hK4;simp_all [J5])
  intro c0;refine A2 ?_;simp only[go_sem];refine hK2 _ ?_;refine oS fun _ hK5=>?_;refine oW X0 ?_;simp (maxSteps:=2000000)only[go_sem];repeat(with_reducible refine oA ?_)
  refine hK5 _ ?_;refine A0 ?_;simp only[hres,go_sem];first|exact oF|(refine⟨?_,oF⟩;clear hK1 hK2 hK3 hK5;simp_all [J5])
def A5o:E4:=fun f=>if f=68 then some (.p A0l) else A3i f
theorem P5:B4 Tryz.prog A5o:=E3 B4W (B0 Tryz.func68 rfl (by decide)) X0
attribute [go_sem] A5o A0l
def A3o:Con:=⟨[.val ((.row 2 (.int .i64))),.val ((.row 2 (.int .i64)))],[⟨.bool,true⟩],fun _=>True,fun x=>x.1.all (fun f=>List.contains x.2.1 f)⟩
theorem C17:C9 Tryz.prog 67 A3o:=by
  refine A4 Tryz.func67 rfl ?_
  have hres:Tryz.f67.results.toList=[.tmp 4]:=rfl
  rintro⟨(xs:List Int),(ys:List Int),_⟩ hc hL
  simp only[A3o,go_sem] at hL
  simp only[A3o,St.init,St.initG,Tryz.ntmps67,go_sem] 
  refine oS fun _ hK1=>?_;refine oW P5 ?_;simp only[go_sem];refine hK1 _ ?_;refine oS fun _ hK2=>?_;refine oS fun _ hK3=>?_;refine oW P5 ?_;simp only[go_sem];refine hK3 _ ?_;refine A1 ?_;refine A7 (ι:={ k:Nat // k≤xs.length∧(xs.take k).all (fun f=>ys.contains f)=true }) (fun k=>⟨[.c (.rd [] 2 (.int .i64) (xs)),.c (.rd [] 2 (.int .i64) (ys)),zz,zz,zz,.c (.sc (.int .i64 (k.1))),zz,zz,zz,zz,zz,zz,zz,zz,zz,zz,zz,zz,zz],[]⟩) (fun k=>xs.length - k.1) ⟨0,by simp⟩ ?_ ?_
  ·
   refine oK ?_;simp (maxSteps:=2000000)only[go_sem];all_goals(first|rfl|((repeat' refine And.intro ?_ ?_)<;>first|rfl|simp))
  rintro⟨k,hk,hp⟩ K4 hL4
  refine oS fun _ hK5=>?_;refine oS fun _ hK6=>?_;refine oW P5 ?_;simp only[go_sem];refine hK6 _ ?_;refine oC rfl ?_ ?_
  ·
   intro c0;refine A2 ?_;simp only[go_sem];refine hK5 _ ?_;refine oS fun _ hK7=>?_;refine A1 ?_;refine oS fun _ hK8=>?_;refine oW P5 ?_;simp (maxSteps:=2000000)only[go_sem];repeat(with_reducible refine oA ?_)
   refine hK8 _ ?_;refine oC rfl ?_ ?_
   ·
    intro c1;refine oS fun _ hK9=>?_;refine oW P5 ?_;simp only[go_sem];refine hK9 _ ?_;refine A0 ?_;simp only[hres,go_sem];first|exact oF|(refine⟨?_,oF⟩;exact(N5 (k:=k) (d:=0) (by omega) (by first|assumption|(clear hp;clear hK1 hK2 hK3 hL4 hK5 hK6 hK7 hK8 hK9;simp_all))).symm)
   intro c1;refine A2 ?_;simp only[go_sem];refine hK7 _ ?_;refine oW P5 ?_;simp only[go_sem];refine hL4 ⟨k+1,by omega,L6 (d:=0) (by omega) hp (by first|assumption|(clear hK1 hK2 hK3 hL4 hK5 hK6 hK7 hK8;simp_all))⟩ _ (oK ?_) ?_
   ·
    simp (maxSteps:=2000000)only[go_sem];first|rfl|exact wk (by omega)
   ·
    first|(simp only[];omega)|omega|(simp;omega)
  intro c0;refine B6 ?_;simp only[go_sem];refine hK2 _ ?_;refine oS fun _ hK10=>?_;refine oW P5 ?_;simp only[go_sem];refine hK10 _ ?_;refine A0 ?_;simp only[hres,go_sem];first|exact oF|(refine⟨?_,oF⟩;exact(L3 hp (by omega)).symm)
def A6a:E4:=fun f=>if f=67 then some (.p A3o) else A5o f
theorem I1:B4 Tryz.prog A6a:=E3 C17 (B0 Tryz.func67 rfl (by decide)) P5
attribute [go_sem] A6a A3o
end Go.Proofs.YtgaogcnfijbahaaGreat
