/-
  Texts of this claim, joined (part 44). No condition beyond those of the theorems.
-/
import Derived.Test.YtenjbehedcegdaaGreatQ30
namespace Go.Proofs.YtenjbehedcegdaaGreat
open Go.RowKit
set_option linter.unusedSimpArgs false
set_option linter.unusedVariables false
set_option maxRecDepth 100000
set_option maxHeartbeats 1000000
def i9:Con:=⟨[.val ((.row 26 (.row 2 (.int .i64))))],[⟨.bool,true⟩],fun _=>True,fun x=>Y6 x.1⟩
theorem A9T:C8 Tryz.prog 65 i9:=by
  refine A4 Tryz.func65 rfl ?_
  have hres:Tryz.f65.results.toList=[.tmp 2]:=rfl
  rintro⟨(xs:List (List Int)),_⟩ hc hL
  simp only[i9,go_sem] at hL
  obtain⟨lxs,lxs2⟩:=hL;simp only[i9,St.init,St.initG,Tryz.ntmps65,go_sem] 
  refine oS fun _ hK1=>?_;refine oW G8 ?_;simp only[go_sem];refine hK1 _ ?_;refine oS fun _ hK2=>?_;refine oS fun _ hK3=>?_;refine oW G8 ?_;simp only[go_sem];refine hK3 _ ?_;refine A3 ?_;refine A8 (ι:={ k:Nat // k≤xs.length∧(xs.take k).all A51=true }) (fun k=>⟨[.c (.rd [] 26 (.row 2 (.int .i64)) (xs)),zz,zz,.c (.sc (.int .i64 (k.1))),zz,zz,zz,zz,zz,zz,zz,zz,zz,zz,zz,zz,zz,zz,zz,zz,zz,zz,zz,zz,zz,zz,zz,zz,zz],[]⟩) (fun k=>xs.length - k.1) ⟨0,by simp⟩ ?_ ?_
  ·
   refine oK ?_;simp (maxSteps:=2000000)only[go_sem];all_goals(first|rfl|((repeat' refine And.intro ?_ ?_)<;>first|rfl|simp))
  rintro⟨k,hk,hp⟩ K4 hL4
  refine oS fun _ hK5=>?_;refine oS fun _ hK6=>?_;refine oW G8 ?_;simp only[go_sem];refine hK6 _ ?_;refine oC rfl ?_ ?_
  ·
   intro c0;refine A2 ?_;simp only[go_sem];refine hK5 _ ?_;refine oS fun _ hK7=>?_;refine A3 ?_;refine oS fun _ hK8=>?_;refine oW G8 ?_;simp (maxSteps:=2000000)only[go_sem];repeat' (with_reducible first|refine oA ?_|refine oT (fun g4=>?_) (fun g4=>?_)|refine oE (fun g4=>?_) (fun g4=>?_))
   all_goals
    refine hK8 _ ?_;refine D5 rfl ?_ ?_
    ·
     intro c1;try simp only[zA,zB,zC,zD,zE,zF,zG,zH,zI] at c1
     all_goals
      refine oS fun _ hK9=>?_;refine oW G8 ?_;simp only[go_sem];refine hK9 _ ?_;refine A0 ?_;simp only[hres,go_sem]
      first
       | exact oF
       | refine ⟨?_, oF⟩
         have hq:A51 (xs.getD k [])=false:=by rw[←B6p];clear hK1 hK2 hK3 hL4 hK5 hK6 hK7 hK8 hK9;simp_all
         rw[Y6,M2 (k:=k) (d:=[]) (by omega) hq];rfl
    ·
     intro c1;try simp only[zA,zB,zC,zD,zE,zF,zG,zH,zI] at c1
     all_goals
      have hq:A51 (xs.getD k [])=true:=by rw[←B6p];clear hK1 hK2 hK3 hL4 hK5 hK6 hK7 hK8;simp_all
      refine A2 ?_;simp only[go_sem];refine hK7 _ ?_;refine oW G8 ?_;simp only[go_sem];refine hL4 ⟨k+1,by omega,J6 (d:=[]) (by omega) hp (by first|assumption|(clear hK1 hK2 hK3 hL4 hK5 hK6 hK7 hK8;simp_all))⟩ _ (oK ?_) ?_
      ·
       simp (maxSteps:=2000000)only[go_sem];first|rfl|exact wk (by omega)
      ·
       first|(simp only[];omega)|omega|(simp;omega)
  intro c0;refine B6 ?_;simp only[go_sem];refine hK2 _ ?_;refine oS fun _ hK10=>?_;refine oW G8 ?_;simp only[go_sem];refine hK10 _ ?_;refine A0 ?_;simp only[hres,go_sem];first|exact oF|(refine⟨?_,oF⟩;rw[Y6,I7 hp (by omega),Bool.true_and];exact decide_eq_decide.2 (by omega))
def A1W:G4:=fun f=>if f=65 then some (.p i9) else A2u f
theorem S8:B5 Tryz.prog A1W:=F8 A9T (B0 Tryz.func65 rfl (by decide)) G8
attribute [go_sem] A1W i9
def s9:Con:=⟨[.ptr (.prod (.int .i64) (.prod (.int .i64) (.prod (.int .i64) (.row 2 (.int .i64)))))],[⟨(.row 2 (.int .i64)),false⟩],fun _=>True,fun x=>G9 x.1⟩
theorem B0I:C8 Tryz.prog 82 s9:=by
  refine A4 Tryz.func82 rfl ?_
  have hres:Tryz.f82.results.toList=[.tmp 2]:=rfl
  rintro⟨⟨(kd:Int),(a:Int),(bb:Int),(fr:List Int)⟩,_⟩ hc hL
  simp only[s9,go_sem] at hL
  simp only[s9,St.init,St.initG,Tryz.ntmps82,go_sem] 
  refine oS fun _ hK1=>?_;refine oW S8 ?_;simp only[go_sem];refine hK1 _ ?_;refine oS fun _ hK2=>?_;refine oS fun _ hK3=>?_;refine oW S8 ?_;simp (maxSteps:=2000000)only[go_sem];repeat(with_reducible refine oA ?_)
  refine hK3 _ ?_;refine oC rfl ?_ ?_
  ·
   intro c0;refine oS fun _ hK4=>?_;refine oW S8 ?_;simp only[go_sem];repeat(with_reducible refine oA ?_)
   refine hK4 _ ?_;refine A0j (B7g _ 228 (by decide)) ?_;simp (maxSteps:=2000000)only[go_sem];refine A0 ?_;simp only[hres,go_sem];first|exact oF|(refine⟨?_,oF⟩;clear hK1 hK2 hK3 hK4;simp_all [G9])
  intro c0;refine A2 ?_;simp only[go_sem];refine hK2 _ ?_;refine oS fun _ hK5=>?_;refine oW S8 ?_;simp (maxSteps:=2000000)only[go_sem];repeat(with_reducible refine oA ?_)
  refine hK5 _ ?_;refine A0 ?_;simp only[hres,go_sem];first|exact oF|(refine⟨?_,oF⟩;clear hK1 hK2 hK3 hK5;simp_all [G9])
def A2t:G4:=fun f=>if f=82 then some (.p s9) else A1W f
theorem M8:B5 Tryz.prog A2t:=F8 B0I (B0 Tryz.func82 rfl (by decide)) S8
attribute [go_sem] A2t s9
def A1J:Con:=⟨[.val ((.row 2 (.int .i64))),.val ((.row 2 (.int .i64)))],[⟨.bool,true⟩],fun _=>True,fun x=>x.1.all (fun f=>List.contains x.2.1 f)⟩
theorem B4j:C8 Tryz.prog 81 A1J:=by
  refine A4 Tryz.func81 rfl ?_
  have hres:Tryz.f81.results.toList=[.tmp 4]:=rfl
  rintro⟨(xs:List Int),(ys:List Int),_⟩ hc hL
  simp only[A1J,go_sem] at hL
  simp only[A1J,St.init,St.initG,Tryz.ntmps81,go_sem] 
  refine oS fun _ hK1=>?_;refine oW M8 ?_;simp only[go_sem];refine hK1 _ ?_;refine oS fun _ hK2=>?_;refine oS fun _ hK3=>?_;refine oW M8 ?_;simp only[go_sem];refine hK3 _ ?_;refine A3 ?_;refine A8 (ι:={ k:Nat // k≤xs.length∧(xs.take k).all (fun f=>ys.contains f)=true }) (fun k=>⟨[.c (.rd [] 2 (.int .i64) (xs)),.c (.rd [] 2 (.int .i64) (ys)),zz,zz,zz,.c (.sc (.int .i64 (k.1))),zz,zz,zz,zz,zz,zz,zz,zz,zz,zz,zz,zz,zz],[]⟩) (fun k=>xs.length - k.1) ⟨0,by simp⟩ ?_ ?_
  ·
   refine oK ?_;simp (maxSteps:=2000000)only[go_sem];all_goals(first|rfl|((repeat' refine And.intro ?_ ?_)<;>first|rfl|simp))
  rintro⟨k,hk,hp⟩ K4 hL4
  refine oS fun _ hK5=>?_;refine oS fun _ hK6=>?_;refine oW M8 ?_;simp only[go_sem];refine hK6 _ ?_;refine oC rfl ?_ ?_
  ·
   intro c0;refine A2 ?_;simp only[go_sem];refine hK5 _ ?_;refine oS fun _ hK7=>?_;refine A3 ?_;refine oS fun _ hK8=>?_;refine oW M8 ?_;simp (maxSteps:=2000000)only[go_sem];repeat(with_reducible refine oA ?_)
   refine hK8 _ ?_;refine oC rfl ?_ ?_
   ·
    intro c1;refine oS fun _ hK9=>?_;refine oW M8 ?_;simp only[go_sem];refine hK9 _ ?_;refine A0 ?_;simp only[hres,go_sem];first|exact oF|(refine⟨?_,oF⟩;exact(M2 (k:=k) (d:=0) (by omega) (by first|assumption|(clear hp;clear hK1 hK2 hK3 hL4 hK5 hK6 hK7 hK8 hK9;simp_all))).symm)
   intro c1;refine A2 ?_;simp only[go_sem];refine hK7 _ ?_;refine oW M8 ?_;simp only[go_sem];refine hL4 ⟨k+1,by omega,J6 (d:=0) (by omega) hp (by first|assumption|(clear hK1 hK2 hK3 hL4 hK5 hK6 hK7 hK8;simp_all))⟩ _ (oK ?_) ?_
   ·
    simp (maxSteps:=2000000)only[go_sem];first|rfl|exact wk (by omega)
   ·
    first|(simp only[];omega)|omega|(simp;omega)
  intro c0;refine B6 ?_;simp only[go_sem];refine hK2 _ ?_;refine oS fun _ hK10=>?_;refine oW M8 ?_;simp only[go_sem];refine hK10 _ ?_;refine A0 ?_;simp only[hres,go_sem];first|exact oF|(refine⟨?_,oF⟩;exact(I7 hp (by omega)).symm)
def A1a:G4:=fun f=>if f=81 then some (.p A1J) else A2t f
theorem H0:B5 Tryz.prog A1a:=F8 B4j (B0 Tryz.func81 rfl (by decide)) M8
attribute [go_sem] A1a A1J
end Go.Proofs.YtenjbehedcegdaaGreat
