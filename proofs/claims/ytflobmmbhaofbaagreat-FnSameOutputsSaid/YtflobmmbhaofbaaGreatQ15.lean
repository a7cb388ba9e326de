/-
  Texts of this claim, joined (part 15). No condition beyond those of the theorems.
-/
import Derived.Test.YtflobmmbhaofbaaGreatQ09
namespace Go.Proofs.YtflobmmbhaofbaaGreat
open Go.RowKit
set_option linter.unusedSimpArgs false
set_option linter.unusedVariables false
set_option maxRecDepth 100000
set_option maxHeartbeats 8000000
def A4i:Con:=⟨[.ptr (.prod (.int .i64) (.prod (.int .i64) (.prod (.int .i64) (.row 2 (.int .i64))))),.val (.int .i64)],[⟨.bool,true⟩],fun _=>True,fun x=>N5 x.1 x.2.1⟩
theorem B9x:D4 Tryz.prog 63 A4i:=by
  refine A7 Tryz.func63 rfl ?_
  have hres:Tryz.f63.results.toList=[.tmp 4]:=rfl
  rintro⟨⟨(kd:Int),(a:Int),(bb:Int),(fr:List Int)⟩,(tb:Int),_⟩ hc hL
  simp only[A4i,go_sem] at hL
  simp only[A4i,St.init,St.initG,Tryz.ntmps63,go_sem] 
  rw[←B8H];refine oS fun _ hK1=>?_;refine oW H0 ?_;simp only[go_sem];refine hK1 _ ?_;refine N9 (A5b kd a bb fr tb=(fr.all (fun f=>O7 f 0 23) && (match decide (kd=17) with|true=>O7 bb 1 16|false=>decide (bb=0)))) ⟨[.c (.pt [] ((.prod (.int .i64) (.prod (.int .i64) (.prod (.int .i64) (.row 2 (.int .i64)))))) (kd,a,bb,fr) 0),zz,zz,zz,zz,zz,zz,zz,zz,zz,zz,zz,zz,zz,zz,zz,zz,zz,zz,zz,zz,zz,zz,zz,zz,zz,zz,zz,zz,zz,zz,zz,zz,zz,zz,zz,zz,zz,zz,zz,zz,zz,zz,zz,zz,zz,zz,zz,zz,zz,zz,zz,zz,zz,zz,zz,zz,zz,zz,zz,zz,zz,zz,zz],[]⟩ ?_ fun _ hK2=>?_
  ·
   intro hN;refine oS fun _ hK3=>?_;refine oS fun _ hK4=>?_;refine oW H0 ?_;simp only[go_sem];refine hK4 _ ?_;refine A5 ?_;refine B4 (ι:={ k:Nat // k≤fr.length∧(fr.take k).all (fun f=>O7 f 0 23)=true }) (fun k=>⟨[.c (.pt [] ((.prod (.int .i64) (.prod (.int .i64) (.prod (.int .i64) (.row 2 (.int .i64)))))) (kd,a,bb,fr) 0),zz,zz,zz,zz,.c (.sc (.int .i64 (k.1))),zz,zz,zz,zz,zz,zz,zz,zz,zz,zz,zz,zz,zz,zz,zz,zz,zz,zz,zz,zz,zz,zz,zz,zz,zz,zz,zz,zz,zz,zz,zz,zz,zz,zz,zz,zz,zz,zz,zz,zz,zz,zz,zz,zz,zz,zz,zz,zz,zz,zz,zz,zz,zz,zz,zz,zz,zz,zz],[]⟩) (fun k=>fr.length - k.1) ⟨0,by simp⟩ ?_ ?_
   ·
    refine oK ?_;simp (maxSteps:=2000000)only[go_sem];all_goals(first|rfl|((repeat' refine And.intro ?_ ?_)<;>first|rfl|simp))
   rintro⟨k,hk,hp⟩ K5 hL5
   refine oS fun _ hK6=>?_;refine oS fun _ hK7=>?_;refine oW H0 ?_;simp (maxSteps:=2000000)only[go_sem];repeat(with_reducible refine oA ?_)
   refine hK7 _ ?_;refine oC rfl ?_ ?_
   ·
    intro c1;refine A3 ?_;simp only[go_sem];refine hK6 _ ?_;refine oS fun _ hK8=>?_;refine A5 ?_;refine oS fun _ hK9=>?_;refine oW H0 ?_;simp (maxSteps:=2000000)only[go_sem];repeat(with_reducible refine oA ?_)
    refine hK9 _ ?_;refine oC rfl ?_ ?_
    ·
     intro c2;refine oS fun _ hK10=>?_;refine oW H0 ?_;simp only[go_sem];refine hK10 _ ?_;refine A2 ?_;simp only[hres,go_sem];first|exact oF|(refine⟨?_,oF⟩;rw[hN,W7 (k:=k) (d:=0) (by omega) (by assumption)];rfl)
    intro c2;refine A3 ?_;simp only[go_sem];refine hK8 _ ?_;refine oW H0 ?_;simp only[go_sem];refine hL5 ⟨k+1,by omega,Q8 (d:=0) (by omega) hp (by first|assumption|(clear hK1 hK3 hK4 hL5 hK6 hK7 hK8 hK9;simp_all))⟩ _ (oK ?_) ?_
    ·
     simp (maxSteps:=2000000)only[go_sem];first|rfl|exact wk (by omega)
    ·
     first|(simp only[];omega)|omega|(simp;omega)
   intro c1;refine C2 ?_;simp only[go_sem];refine hK3 _ ?_;refine oS fun _ hK11=>?_;refine oS fun _ hK12=>?_;refine oW H0 ?_;simp (maxSteps:=2000000)only[go_sem];repeat(with_reducible refine oA ?_)
   refine hK12 _ ?_;refine oC rfl ?_ ?_
   ·
    intro c3;refine oS fun _ hK13=>?_;refine oW H0 ?_;simp (maxSteps:=2000000)only[go_sem];repeat(with_reducible refine oA ?_)
    refine hK13 _ ?_;refine A2 ?_;simp only[hres,go_sem];first|exact oF|(refine⟨?_,oF⟩;rw[hN,P2 hp (by omega),Bool.true_and,decide_eq_true (show kd=17 by assumption)])
   intro c3;refine A3 ?_;simp only[go_sem];refine hK11 _ ?_;refine oS fun _ hK14=>?_;refine oW H0 ?_;simp (maxSteps:=2000000)only[go_sem];repeat(with_reducible refine oA ?_)
   refine hK14 _ ?_;refine A2 ?_;simp only[hres,go_sem];first|exact oF|(refine⟨?_,oF⟩;rw[hN,P2 hp (by omega),Bool.true_and,decide_eq_false (show ¬kd=17 by assumption)])
  refine oS fun _ hK15=>?_
  refine oR H0
    [[],[0],[0,1],[0,1,2],[0,1,2,3],[0,1,2,3,4],[0,1,2,3,4,5],[0,1,2,3,4,5,6],[0,1,2,3,4,5,6],[0,1,2,3,4,5,6,7,8],[0,1,2,3,4,5,6,7,8,9],[0,1,2,3,4,5,6,7,8,9,10],[0,1,2,3,4,5,6,7,8,9,10,11],[0,1,2,3,4,5,6,7,8,9,10,11,12],[0,1,2,3,4,5,6,7,8,9,10,11,12,13],[0,1,2,3,4,5,6,7,8,9,10,11,12,13,14],[0,1,2,3,4,5,6,7,8,9,10,11,12,13,14,15],[0,1,2,3,4,5,6,7,8,9,10,11,12,13,14,15,16],[0,1,2,3,4,5,6,7,8,9,10,11,12],[0,1,2,3,4,5,6,7,8,9,10,11,12,18],[0,1,2,3,4,5,6,7,8,9,10,11,12,18,19],[0,1,2,3,4,5,6,7,8,9,10,11,12,18,19,20],[0,1,2,3,4,5,6,7,8,9,10,11,12,18,19,20,21],[0,1,2,3,4,5,6,7,8,9,10,11,12,13,14,15,16,17,18,19,20,21,22],[0,1,2,3,4,5,6,7,8,9,10,11,12,13,14,15,16,17,18,19,20,21,22,23]]
    [[],[],[],[],[],[],[],[],[],[],[],[],[],[],[],[],[],[],[],[],[],[],[],[],[]]
    [[],[],[],[],[],[],[],[],[],[],[],[],[],[],[],[],[],[],[],[],[],[],[],[],[]] (by kernel_rfl) (by kernel_rfl) (B7 (acc:=[]) ?_)
  simp (maxSteps:=2000000)only[go_sem];repeat' (with_reducible first|refine oD ?_|refine And.intro (by first|exact E0.2 (by have:=E0.1 (show O7 kd 1 17=true by clear hK1 hK2 hK15;simp_all);omega)) ?_|refine oT (fun g1=>?_) (fun g1=>?_)|refine oE (fun g1=>?_) (fun g1=>?_))
  all_goals
   refine hK15 _ ?_;refine D2 rfl ?_ ?_
   ·
    intro c0;try simp only[zA,zB,zC,zD,zE,zF,zG,zH,zI] at c0
    all_goals
     refine oS fun _ hK16=>?_;refine oW H0 ?_;simp only[go_sem];refine hK16 _ ?_;refine A2 ?_;simp only[hres,go_sem];first|exact oF|(refine⟨?_,oF⟩;clear hK1 hK2 hK15 hK16;simp_all [A5b])
   ·
    intro c0;try simp only[zA,zB,zC,zD,zE,zF,zG,zH,zI] at c0
    all_goals
     refine A3 ?_;simp only[go_sem];refine hK2 _ (oK ?_) ?_
     ·
      simp (maxSteps:=2000000)only[go_sem];all_goals(first|rfl|((repeat' refine And.intro ?_ ?_)<;>first|rfl|exact wk (by omega)|simp))
     ·
      clear hK1 hK2 hK15;simp_all [A5b]<;>rfl
def A7R:F8:=fun f=>if f=63 then some (.p A4i) else A2t f
theorem A8O:B8 Tryz.prog A7R:=F9 B9x (B6 Tryz.func63 rfl (by decide)) H0
attribute [go_sem] A7R A4i
set_option maxRecDepth 100000
set_option maxHeartbeats 1000000
def t9:Con:=⟨[.val ((.row 26 (.row 2 (.int .i64))))],[⟨.bool,true⟩],fun _=>True,fun x=>y2 x.1⟩
theorem B1V:D4 Tryz.prog 62 t9:=by
  refine A7 Tryz.func62 rfl ?_
  have hres:Tryz.f62.results.toList=[.tmp 2]:=rfl
  rintro⟨(xs:List (List Int)),_⟩ hc hL
  simp only[t9,go_sem] at hL
  obtain⟨lxs,lxs2⟩:=hL;simp only[t9,St.init,St.initG,Tryz.ntmps62,go_sem] 
  refine oS fun _ hK1=>?_;refine oW H0 ?_;simp only[go_sem];refine hK1 _ ?_;refine oS fun _ hK2=>?_;refine oS fun _ hK3=>?_;refine oW H0 ?_;simp only[go_sem];refine hK3 _ ?_;refine A5 ?_;refine B4 (ι:={ k:Nat // k≤xs.length∧(xs.take k).all A6W=true }) (fun k=>⟨[.c (.rd [] 26 (.row 2 (.int .i64)) (xs)),zz,zz,.c (.sc (.int .i64 (k.1))),zz,zz,zz,zz,zz,zz,zz,zz,zz,zz,zz,zz,zz,zz,zz,zz,zz,zz,zz,zz,zz,zz,zz,zz,zz],[]⟩) (fun k=>xs.length - k.1) ⟨0,by simp⟩ ?_ ?_
  ·
   refine oK ?_;simp (maxSteps:=2000000)only[go_sem];all_goals(first|rfl|((repeat' refine And.intro ?_ ?_)<;>first|rfl|simp))
  rintro⟨k,hk,hp⟩ K4 hL4
  refine oS fun _ hK5=>?_;refine oS fun _ hK6=>?_;refine oW H0 ?_;simp only[go_sem];refine hK6 _ ?_;refine oC rfl ?_ ?_
  ·
   intro c0;refine A3 ?_;simp only[go_sem];refine hK5 _ ?_;refine oS fun _ hK7=>?_;refine A5 ?_;refine oS fun _ hK8=>?_;refine oW H0 ?_;simp (maxSteps:=2000000)only[go_sem];repeat' (with_reducible first|refine oA ?_|refine oT (fun g4=>?_) (fun g4=>?_)|refine oE (fun g4=>?_) (fun g4=>?_))
   all_goals
    refine hK8 _ ?_;refine D2 rfl ?_ ?_
    ·
     intro c1;try simp only[zA,zB,zC,zD,zE,zF,zG,zH,zI] at c1
     all_goals
      refine oS fun _ hK9=>?_;refine oW H0 ?_;simp only[go_sem];refine hK9 _ ?_;refine A2 ?_;simp only[hres,go_sem]
      first
       | exact oF
       | refine ⟨?_, oF⟩
         have hq:A6W (xs.getD k [])=false:=by rw[←B9P];clear hK1 hK2 hK3 hL4 hK5 hK6 hK7 hK8 hK9;simp_all
         rw[y2,W7 (k:=k) (d:=[]) (by omega) hq];rfl
    ·
     intro c1;try simp only[zA,zB,zC,zD,zE,zF,zG,zH,zI] at c1
     all_goals
      have hq:A6W (xs.getD k [])=true:=by rw[←B9P];clear hK1 hK2 hK3 hL4 hK5 hK6 hK7 hK8;simp_all
      refine A3 ?_;simp only[go_sem];refine hK7 _ ?_;refine oW H0 ?_;simp only[go_sem];refine hL4 ⟨k+1,by omega,Q8 (d:=[]) (by omega) hp (by first|assumption|(clear hK1 hK2 hK3 hL4 hK5 hK6 hK7 hK8;simp_all))⟩ _ (oK ?_) ?_
      ·
       simp (maxSteps:=2000000)only[go_sem];first|rfl|exact wk (by omega)
      ·
       first|(simp only[];omega)|omega|(simp;omega)
  intro c0;refine C2 ?_;simp only[go_sem];refine hK2 _ ?_;refine oS fun _ hK10=>?_;refine oW H0 ?_;simp only[go_sem];refine hK10 _ ?_;refine A2 ?_;simp only[hres,go_sem];first|exact oF|(refine⟨?_,oF⟩;rw[y2,P2 hp (by omega),Bool.true_and];exact decide_eq_decide.2 (by omega))
def A2X:F8:=fun f=>if f=62 then some (.p t9) else A2t f
theorem X0:B8 Tryz.prog A2X:=F9 B1V (B6 Tryz.func62 rfl (by decide)) H0
attribute [go_sem] A2X t9
def A0L:Con:=⟨[.ptr (.prod (.int .i64) (.prod (.int .i64) (.prod (.int .i64) (.row 2 (.int .i64)))))],[⟨(.row 2 (.int .i64)),false⟩],fun _=>True,fun x=>D9 x.1⟩
theorem B3f:D4 Tryz.prog 66 A0L:=by
  refine A7 Tryz.func66 rfl ?_
  have hres:Tryz.f66.results.toList=[.tmp 2]:=rfl
  rintro⟨⟨(kd:Int),(a:Int),(bb:Int),(fr:List Int)⟩,_⟩ hc hL
  simp only[A0L,go_sem] at hL
  simp only[A0L,St.init,St.initG,Tryz.ntmps66,go_sem] 
  refine oS fun _ hK1=>?_;refine oW X0 ?_;simp only[go_sem];refine hK1 _ ?_;refine oS fun _ hK2=>?_;refine oS fun _ hK3=>?_;refine oW X0 ?_;simp (maxSteps:=2000000)only[go_sem];repeat(with_reducible refine oA ?_)
  refine hK3 _ ?_;refine oC rfl ?_ ?_
  ·
   intro c0;refine oS fun _ hK4=>?_;refine oW X0 ?_;simp only[go_sem];repeat(with_reducible refine oA ?_)
   refine hK4 _ ?_;refine Q1 (C2E _ 228 (by decide)) ?_;simp (maxSteps:=2000000)only[go_sem];refine A2 ?_;simp only[hres,go_sem];first|exact oF|(refine⟨?_,oF⟩;clear hK1 hK2 hK3 hK4;simp_all [D9])
  intro c0;refine A3 ?_;simp only[go_sem];refine hK2 _ ?_;refine oS fun _ hK5=>?_;refine oW X0 ?_;simp (maxSteps:=2000000)only[go_sem];repeat(with_reducible refine oA ?_)
  refine hK5 _ ?_;refine A2 ?_;simp only[hres,go_sem];first|exact oF|(refine⟨?_,oF⟩;clear hK1 hK2 hK3 hK5;simp_all [D9])
def A3r:F8:=fun f=>if f=66 then some (.p A0L) else A2X f
theorem O6:B8 Tryz.prog A3r:=F9 B3f (B6 Tryz.func66 rfl (by decide)) X0
attribute [go_sem] A3r A0L
def A2y:Con:=⟨[.val ((.row 2 (.int .i64))),.val ((.row 2 (.int .i64)))],[⟨.bool,true⟩],fun _=>True,fun x=>x.1.all (fun f=>List.contains x.2.1 f)⟩
theorem B8U:D4 Tryz.prog 65 A2y:=by
  refine A7 Tryz.func65 rfl ?_
  have hres:Tryz.f65.results.toList=[.tmp 4]:=rfl
  rintro⟨(xs:List Int),(ys:List Int),_⟩ hc hL
  simp only[A2y,go_sem] at hL
  simp only[A2y,St.init,St.initG,Tryz.ntmps65,go_sem] 
  refine oS fun _ hK1=>?_;refine oW O6 ?_;simp only[go_sem];refine hK1 _ ?_;refine oS fun _ hK2=>?_;refine oS fun _ hK3=>?_;refine oW O6 ?_;simp only[go_sem];refine hK3 _ ?_;refine A5 ?_;refine B4 (ι:={ k:Nat // k≤xs.length∧(xs.take k).all (fun f=>ys.contains f)=true }) (fun k=>⟨[.c (.rd [] 2 (.int .i64) (xs)),.c (.rd [] 2 (.int .i64) (ys)),zz,zz,zz,.c (.sc (.int .i64 (k.1))),zz,zz,zz,zz,zz,zz,zz,zz,zz,zz,zz,zz,zz],[]⟩) (fun k=>xs.length - k.1) ⟨0,by simp⟩ ?_ ?_
  ·
   refine oK ?_;simp (maxSteps:=2000000)only[go_sem];all_goals(first|rfl|((repeat' refine And.intro ?_ ?_)<;>first|rfl|simp))
  rintro⟨k,hk,hp⟩ K4 hL4
  refine oS fun _ hK5=>?_;refine oS fun _ hK6=>?_;refine oW O6 ?_;simp only[go_sem];refine hK6 _ ?_;refine oC rfl ?_ ?_
  ·
   intro c0;refine A3 ?_;simp only[go_sem];refine hK5 _ ?_;refine oS fun _ hK7=>?_;refine A5 ?_;refine oS fun _ hK8=>?_;refine oW O6 ?_;simp (maxSteps:=2000000)only[go_sem];repeat(with_reducible refine oA ?_)
   refine hK8 _ ?_;refine oC rfl ?_ ?_
   ·
    intro c1;refine oS fun _ hK9=>?_;refine oW O6 ?_;simp only[go_sem];refine hK9 _ ?_;refine A2 ?_;simp only[hres,go_sem];first|exact oF|(refine⟨?_,oF⟩;exact(W7 (k:=k) (d:=0) (by omega) (by first|assumption|(clear hp;clear hK1 hK2 hK3 hL4 hK5 hK6 hK7 hK8 hK9;simp_all))).symm)
   intro c1;refine A3 ?_;simp only[go_sem];refine hK7 _ ?_;refine oW O6 ?_;simp only[go_sem];refine hL4 ⟨k+1,by omega,Q8 (d:=0) (by omega) hp (by first|assumption|(clear hK1 hK2 hK3 hL4 hK5 hK6 hK7 hK8;simp_all))⟩ _ (oK ?_) ?_
   ·
    simp (maxSteps:=2000000)only[go_sem];first|rfl|exact wk (by omega)
   ·
    first|(simp only[];omega)|omega|(simp;omega)
  intro c0;refine C2 ?_;simp only[go_sem];refine hK2 _ ?_;refine oS fun _ hK10=>?_;refine oW O6 ?_;simp only[go_sem];refine hK10 _ ?_;refine A2 ?_;simp only[hres,go_sem];first|exact oF|(refine⟨?_,oF⟩;exact(P2 hp (by omega)).symm)
def A4w:F8:=fun f=>if f=65 then some (.p A2y) else A3r f
theorem I2:B8 Tryz.prog A4w:=F9 B8U (B6 Tryz.func65 rfl (by decide)) O6
attribute [go_sem] A4w A2y
end Go.Proofs.YtflobmmbhaofbaaGreat
