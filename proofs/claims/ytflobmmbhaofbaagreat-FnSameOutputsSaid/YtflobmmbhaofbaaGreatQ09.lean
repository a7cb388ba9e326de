/-
  Texts of this claim, joined (part 9). No condition beyond those of the theorems.
-/
import Derived.Test.YtflobmmbhaofbaaGreatQ06
import Derived.Test.YtflobmmbhaofbaaGreatQ04
namespace Go.Proofs.YtflobmmbhaofbaaGreat
open Go.RowKit
set_option linter.unusedSimpArgs false
set_option linter.unusedVariables false
set_option maxRecDepth 100000
set_option maxHeartbeats 1000000
def A1o:Con:=⟨[.val (.int .i64)],[⟨.bool,true⟩],fun _=>True,fun x=>O7 x.1 1 17⟩
theorem B5f:D4 Tryz.prog 90 A1o:=by
  refine A7 Tryz.func90 rfl ?_
  have hres:Tryz.f90.results.toList=[.tmp 2]:=rfl
  rintro⟨(x:Int),_⟩ hc hL
  simp only[A1o,go_sem] at hL
  simp only[A1o,St.init,St.initG,Tryz.ntmps90,go_sem] 
  refine oS fun _ hK1=>?_;refine oW D5 ?_;simp only[go_sem];refine hK1 _ ?_;refine oS fun _ hK2=>?_;refine oW D5 ?_;simp only[go_sem];repeat(with_reducible refine oA ?_)
  refine hK2 _ ?_;refine A2 ?_;simp only[hres,go_sem];first|exact oF|exact oFr
def A5x:F8:=fun f=>if f=90 then some (.p A1o) else y7 f
theorem N1:B8 Tryz.prog A5x:=F9 B5f (B6 Tryz.func90 rfl (by decide)) D5
attribute [go_sem] A5x A1o
def A58:Con:=⟨[.val ((.row 2 (.int .i64)))],[⟨.bool,true⟩],fun _=>True,fun x=>A85 x.1⟩
theorem B9l:D4 Tryz.prog 46 A58:=by
  refine A7 Tryz.func46 rfl ?_
  have hres:Tryz.f46.results.toList=[.tmp 2]:=rfl
  rintro⟨(xs:List Int),_⟩ hc hL
  simp only[A58,go_sem] at hL
  simp only[A58,St.init,St.initG,Tryz.ntmps46,go_sem] 
  refine oS fun _ hK1=>?_;refine oW N1 ?_;simp only[go_sem];refine hK1 _ ?_;refine oS fun _ hK2=>?_;refine oS fun _ hK3=>?_;refine oW N1 ?_;simp only[go_sem];refine hK3 _ ?_;refine oC rfl ?_ ?_
  ·
   intro c0;refine oS fun _ hK4=>?_;refine oW N1 ?_;simp only[go_sem];refine hK4 _ ?_;refine A2 ?_;simp only[hres,go_sem];first|exact oF|(refine⟨?_,oF⟩;rw[A85,decide_eq_false (by omega)];rfl)
  intro c0;refine A3 ?_;simp only[go_sem];refine hK2 _ ?_;refine oS fun _ hK5=>?_;refine oS fun _ hK6=>?_;refine oW N1 ?_;simp only[go_sem];refine hK6 _ ?_;refine A5 ?_;refine B4 (ι:={ k:Nat // k≤xs.length∧(xs.take k).all smp=true }) (fun k=>⟨[.c (.rd [] 2 (.int .i64) (xs)),zz,zz,.c (.sc (.int .i64 (k.1))),zz,zz,zz,zz,zz,zz,zz,zz,zz,zz,zz,zz,zz,zz,zz],[]⟩) (fun k=>xs.length - k.1) ⟨0,by simp⟩ ?_ ?_
  ·
   refine oK ?_;simp (maxSteps:=2000000)only[go_sem];all_goals(first|rfl|((repeat' refine And.intro ?_ ?_)<;>first|rfl|simp))
  rintro⟨k,hk,hp⟩ K7 hL7
  refine oS fun _ hK8=>?_;refine oS fun _ hK9=>?_;refine oW N1 ?_;simp only[go_sem];refine hK9 _ ?_;refine oC rfl ?_ ?_
  ·
   intro c1;refine A3 ?_;simp only[go_sem];refine hK8 _ ?_;refine oS fun _ hK10=>?_;refine A5 ?_;refine oS fun _ hK11=>?_;refine oW N1 ?_;simp (maxSteps:=2000000)only[go_sem];repeat(with_reducible refine oA ?_)
   refine hK11 _ ?_;refine oC rfl ?_ ?_
   ·
    intro c2;refine oS fun _ hK12=>?_;refine oW N1 ?_;simp only[go_sem];refine hK12 _ ?_;refine A2 ?_;simp only[hres,go_sem];first|exact oF|(refine⟨?_,oF⟩;rw[A85,decide_eq_true (by omega),S8,W7 (k:=k) (d:=0) (by omega) (by assumption)];rfl)
   intro c2;refine A3 ?_;simp only[go_sem];refine hK10 _ ?_;refine oW N1 ?_;simp only[go_sem];refine hL7 ⟨k+1,by omega,Q8 (d:=0) (by omega) hp (by first|assumption|(clear hK1 hK2 hK3 hK5 hK6 hL7 hK8 hK9 hK10 hK11;simp_all))⟩ _ (oK ?_) ?_
   ·
    simp (maxSteps:=2000000)only[go_sem];first|rfl|exact wk (by omega)
   ·
    first|(simp only[];omega)|omega|(simp;omega)
  intro c1;refine C2 ?_;simp only[go_sem];refine hK5 _ ?_;refine oS fun _ hK13=>?_;refine oW N1 ?_;simp only[go_sem];refine hK13 _ ?_;refine A2 ?_;simp only[hres,go_sem];first|exact oF|(refine⟨?_,oF⟩;rw[A85,decide_eq_true (by omega),S8,P2 hp (by omega)];rfl)
def B1T:F8:=fun f=>if f=46 then some (.p A58) else A5x f
theorem W6:B8 Tryz.prog B1T:=F9 B9l (B6 Tryz.func46 rfl (by decide)) N1
attribute [go_sem] B1T A58
def A2Q:Con:=⟨[.val ((.row 2 (.int .i64))),.val (.int .i64)],[⟨.bool,true⟩],fun _=>True,fun x=>x.1.contains x.2.1⟩
theorem B81:D4 Tryz.prog 64 A2Q:=by
  refine A7 Tryz.func64 rfl ?_
  have hres:Tryz.f64.results.toList=[.tmp 4]:=rfl
  rintro⟨(xs:List Int),(m:Int),_⟩ hc hL
  simp only[A2Q,go_sem] at hL
  simp only[A2Q,St.init,St.initG,Tryz.ntmps64,go_sem] 
  refine oS fun _ hK1=>?_;refine oW W6 ?_;simp only[go_sem];refine hK1 _ ?_;refine oS fun _ hK2=>?_;refine oS fun _ hK3=>?_;refine oW W6 ?_;simp only[go_sem];refine hK3 _ ?_;refine A5 ?_;refine B4 (ι:={ k:Nat // k≤xs.length∧(xs.take k).contains m=false }) (fun k=>⟨[.c (.rd [] 2 (.int .i64) (xs)),.c (.sc (.int .i64 (m))),zz,zz,zz,.c (.sc (.int .i64 (k.1))),zz,zz,zz,zz,zz,zz,zz,zz,zz,zz,zz,zz],[]⟩) (fun k=>xs.length - k.1) ⟨0,by simp,by simp⟩ ?_ ?_
  ·
   refine oK ?_;simp (maxSteps:=2000000)only[go_sem];all_goals(first|rfl|((repeat' refine And.intro ?_ ?_)<;>first|rfl|simp))
  rintro⟨k,hk,hp⟩ K4 hL4
  refine oS fun _ hK5=>?_;refine oS fun _ hK6=>?_;refine oW W6 ?_;simp only[go_sem];refine hK6 _ ?_;refine oC rfl ?_ ?_
  ·
   intro c0;refine A3 ?_;simp only[go_sem];refine hK5 _ ?_;refine oS fun _ hK7=>?_;refine A5 ?_;refine oS fun _ hK8=>?_;refine oW W6 ?_;simp (maxSteps:=2000000)only[go_sem];repeat(with_reducible refine oA ?_)
   refine hK8 _ ?_;refine oC rfl ?_ ?_
   ·
    intro c1;refine oS fun _ hK9=>?_;refine oW W6 ?_;simp only[go_sem];refine hK9 _ ?_;refine A2 ?_;simp only[hres,go_sem];first|exact oF|(refine⟨?_,oF⟩;exact(C08 (k:=k) (by omega) c1).symm)
   intro c1;refine A3 ?_;simp only[go_sem];refine hK7 _ ?_;refine oW W6 ?_;simp only[go_sem];refine hL4 ⟨k+1,by omega,C1C (by omega) hp c1⟩ _ (oK ?_) ?_
   ·
    simp (maxSteps:=2000000)only[go_sem];all_goals(first|rfl|((repeat' refine And.intro ?_ ?_)<;>first|rfl|exact wk (by omega)|simp))
   ·
    first|(simp only[];omega)|omega|(simp;omega)
  intro c0;refine C2 ?_;simp only[go_sem];refine hK2 _ ?_;refine oS fun _ hK10=>?_;refine oW W6 ?_;simp only[go_sem];refine hK10 _ ?_;refine A2 ?_;simp only[hres,go_sem];first|exact oF|(refine⟨?_,oF⟩;exact(C0Z hp (by omega)).symm)
def A7t:F8:=fun f=>if f=64 then some (.p A2Q) else B1T f
theorem w4:B8 Tryz.prog A7t:=F9 B81 (B6 Tryz.func64 rfl (by decide)) W6
attribute [go_sem] A7t A2Q
def A2h:Con:=⟨[.val (.int .i64),.val (.int .i64)],[⟨.int .i64,true⟩],fun _=>True,fun x=>A2c x.1 x.2.1⟩
theorem B7V:D4 Tryz.prog 112 A2h:=by
  refine A7 Tryz.func112 rfl ?_
  have hres:Tryz.f112.results.toList=[.tmp 4]:=rfl
  rintro⟨(x:Int),(y:Int),_⟩ hc hL
  simp only[A2h,go_sem] at hL
  simp only[A2h,St.init,St.initG,Tryz.ntmps112,go_sem] 
  refine oS fun _ hK1=>?_;refine oW w4 ?_;simp only[go_sem];refine hK1 _ ?_;refine oS fun _ hK2=>?_;refine oS fun _ hK3=>?_;refine oW w4 ?_;simp only[go_sem];refine hK3 _ ?_;refine oC rfl ?_ ?_
  ·
   intro c0;refine oS fun _ hK4=>?_;refine oW w4 ?_;simp only[go_sem];refine hK4 _ ?_;refine A2 ?_;simp only[hres,go_sem];first|exact oF|(refine⟨?_,oF⟩;exact C3W (by omega))
  intro c0;refine A3 ?_;simp only[go_sem];refine hK2 _ ?_;refine oS fun _ hK5=>?_;refine oW w4 ?_;simp only[go_sem];refine hK5 _ ?_;refine A2 ?_;simp only[hres,go_sem];first|exact oF|(refine⟨?_,oF⟩;exact C3F (by omega))
def A98:F8:=fun f=>if f=112 then some (.p A2h) else A7t f
theorem o9:B8 Tryz.prog A98:=F9 B7V (B6 Tryz.func112 rfl (by decide)) w4
attribute [go_sem] A98 A2h
def A2o:Con:=⟨[.val (.int .i64),.val (.int .i64)],[⟨.int .i64,true⟩],fun _=>True,fun x=>A0I x.1 x.2.1⟩
theorem B7M:D4 Tryz.prog 78 A2o:=by
  refine A7 Tryz.func78 rfl ?_
  have hres:Tryz.f78.results.toList=[.tmp 4]:=rfl
  rintro⟨(x:Int),(y:Int),_⟩ hc hL
  simp only[A2o,go_sem] at hL
  simp only[A2o,St.init,St.initG,Tryz.ntmps78,go_sem] 
  refine oS fun _ hK1=>?_;refine oW o9 ?_;simp only[go_sem];refine hK1 _ ?_;refine oS fun _ hK2=>?_;refine oS fun _ hK3=>?_;refine oW o9 ?_;simp only[go_sem];refine hK3 _ ?_;refine oC rfl ?_ ?_
  ·
   intro c0;refine oS fun _ hK4=>?_;refine oW o9 ?_;simp only[go_sem];refine hK4 _ ?_;refine A2 ?_;simp only[hres,go_sem];first|exact oF|(refine⟨?_,oF⟩;exact C3b (by omega))
  intro c0;refine A3 ?_;simp only[go_sem];refine hK2 _ ?_;refine oS fun _ hK5=>?_;refine oW o9 ?_;simp only[go_sem];refine hK5 _ ?_;refine A2 ?_;simp only[hres,go_sem];first|exact oF|(refine⟨?_,oF⟩;exact C3I (by omega))
def A9J:F8:=fun f=>if f=78 then some (.p A2o) else A98 f
theorem A2i:B8 Tryz.prog A9J:=F9 B7M (B6 Tryz.func78 rfl (by decide)) o9
attribute [go_sem] A9J A2o
def A0N:Con:=⟨[.val (.int .i64)],[⟨.int .i64,true⟩],fun x=>O7 x.1 0 17=true,fun x=>arL.getD (Int.toNat x.1) 0⟩
theorem B3r:D4 Tryz.prog 76 A0N:=by
  refine A7 Tryz.func76 rfl ?_
  have hres:Tryz.f76.results.toList=[.tmp 2]:=rfl
  rintro⟨(x:Int),_⟩ hc hL
  simp only[A0N,go_sem] at hL
  simp only[A0N,St.init,St.initG,Tryz.ntmps76,go_sem] 
  obtain⟨hx1,hx2⟩:=E0.1 (show O7 x 0 17=true from hc)
  refine oS fun _ hK1=>?_;refine oW A2i ?_;simp only[go_sem];refine hK1 _ ?_;refine oS fun _ hK2=>?_;refine oW A2i ?_;simp (maxSteps:=2000000)only[go_sem];repeat(with_reducible refine oA ?_)
  refine hK2 _ ?_;refine A2 ?_;simp only[hres,go_sem];first|exact oF|exact oFr
def A4R:F8:=fun f=>if f=76 then some (.p A0N) else A9J f
theorem A18:B8 Tryz.prog A4R:=F9 B3r (B6 Tryz.func76 rfl (by decide)) A2i
attribute [go_sem] A4R A0N
def A1g:Con:=⟨[.val (.int .i64)],[⟨.bool,true⟩],fun _=>True,fun x=>B6f.contains x.1⟩
theorem B66:D4 Tryz.prog 113 A1g:=by
  refine A7 Tryz.func113 rfl ?_
  have hres:Tryz.f113.results.toList=[.tmp 2]:=rfl
  rintro⟨(x:Int),_⟩ hc hL
  simp only[A1g,go_sem] at hL
  simp only[A1g,St.init,St.initG,Tryz.ntmps113,go_sem] 
  refine oS fun _ hK1=>?_;refine oW A18 ?_;simp only[go_sem];refine hK1 _ ?_;refine oS fun _ hK2=>?_;refine oW A18 ?_;simp only[go_sem];repeat(with_reducible refine oA ?_)
  refine hK2 _ ?_;refine A2 ?_;simp only[hres,go_sem];first|exact oF|(refine⟨?_,oF⟩;unfold B6f;simp only[List.contains_cons,List.contains_nil,Bool.or_false])
def A5s:F8:=fun f=>if f=113 then some (.p A1g) else A4R f
theorem H3:B8 Tryz.prog A5s:=F9 B66 (B6 Tryz.func113 rfl (by decide)) A18
attribute [go_sem] A5s A1g
def A8H:Con:=⟨[.ptr (.prod (.int .i64) (.prod (.int .i64) (.prod (.int .i64) (.row 2 (.int .i64))))),.val (.int .i64)],[⟨.bool,true⟩],fun _=>True,fun x=>A3n x.1.1 x.1.2.1 x.2.1⟩
theorem C1e:D4 Tryz.prog 91 A8H:=by
  refine A7 Tryz.func91 rfl ?_
  have hres:Tryz.f91.results.toList=[.tmp 4]:=rfl
  rintro⟨⟨(kd:Int),(a:Int),(bb:Int),(fr:List Int)⟩,(tb:Int),_⟩ hc hL
  simp only[A8H,go_sem] at hL
  simp only[A8H,St.init,St.initG,Tryz.ntmps91,go_sem] 
  refine oS fun _ hK1=>?_;refine oW H3 ?_;simp only[go_sem];refine hK1 _ ?_;refine oS fun _ hK2=>?_;refine oS fun _ hK3=>?_;refine oW H3 ?_;simp only[go_sem];repeat(with_reducible refine oA ?_)
  refine hK3 _ ?_;refine A5 ?_;refine oS fun _ hK4=>?_;refine oW H3 ?_;simp only[go_sem];refine hK4 _ ?_;refine oC rfl ?_ ?_
  ·
   intro c0;refine oS fun _ hK5=>?_;refine oW H3 ?_;simp (maxSteps:=2000000)only[go_sem];repeat(with_reducible refine oA ?_)
   refine hK5 _ ?_;refine A2 ?_;simp only[hres,go_sem];first|exact oF|(refine⟨?_,oF⟩;clear hK1 hK2 hK3 hK4 hK5;simp_all [A3n,A2c,A0I])
  intro c0;refine oS fun _ hK6=>?_;refine oW H3 ?_;simp only[go_sem];refine hK6 _ ?_;refine oC rfl ?_ ?_
  ·
   intro c1;refine oS fun _ hK7=>?_;refine oW H3 ?_;simp (maxSteps:=2000000)only[go_sem];repeat(with_reducible refine oA ?_)
   refine hK7 _ ?_;refine A2 ?_;simp only[hres,go_sem];first|exact oF|(refine⟨?_,oF⟩;clear hK1 hK2 hK3 hK4 hK6 hK7;simp_all [A3n,A2c,A0I])
  intro c1;refine oS fun _ hK8=>?_;refine oW H3 ?_;simp only[go_sem];refine hK8 _ ?_;refine oC rfl ?_ ?_
  ·
   intro c2;refine oS fun _ hK9=>?_;refine oW H3 ?_;simp (maxSteps:=2000000)only[go_sem];repeat(with_reducible refine oA ?_)
   refine hK9 _ ?_;refine A2 ?_;simp only[hres,go_sem];first|exact oF|(refine⟨?_,oF⟩;clear hK1 hK2 hK3 hK4 hK6 hK8 hK9;simp_all [A3n,A2c,A0I])
  intro c2;refine oS fun _ hK10=>?_;refine oW H3 ?_;simp only[go_sem];refine hK10 _ ?_;refine oC rfl ?_ ?_
  ·
   intro c3;refine oS fun _ hK11=>?_;refine oW H3 ?_;simp (maxSteps:=2000000)only[go_sem];repeat(with_reducible refine oA ?_)
   refine hK11 _ ?_;refine A2 ?_;simp only[hres,go_sem];first|exact oF|(refine⟨?_,oF⟩;clear hK1 hK2 hK3 hK4 hK6 hK8 hK10 hK11;simp_all [A3n,A2c,A0I])
  intro c3;refine oS fun _ hK12=>?_;refine oW H3 ?_;simp only[go_sem];refine hK12 _ ?_;refine oC rfl ?_ ?_
  ·
   intro c4;refine oS fun _ hK13=>?_;have hw:IntKind.i64.wrap (A2c (A0I tb 0) 4 - 1)=A2c (A0I tb 0) 4 - 1:=G9 (by unfold A2c A0I;omega)
   refine oR H3
     [[],[0],[0,1],[0,1,2],[],[4],[4,5],[4,5,6],[0,1,2,3,4,5,6,7],[0,1,2,3,4,5,6,7,8]]
     [[],[],[],[],[],[],[],[],[],[]]
     [[],[],[],[],[],[],[],[],[],[]] (by kernel_rfl) (by kernel_rfl) (B7 (acc:=[]) ?_)
   simp (maxSteps:=2000000)only[hw,go_sem];repeat(with_reducible refine oD ?_)
   refine hK13 _ ?_;refine A2 ?_;simp only[hres,go_sem];first|exact oF|(refine⟨?_,oF⟩;clear hK1 hK2 hK3 hK4 hK6 hK8 hK10 hK12 hK13;simp_all [A3n,A2c,A0I])
  intro c4;refine A3 ?_;simp only[go_sem];refine hK2 _ ?_;refine oS fun _ hK14=>?_;refine oS fun _ hK15=>?_;refine oW H3 ?_;simp (maxSteps:=2000000)only[go_sem];repeat(with_reducible refine oA ?_)
  refine hK15 _ ?_;refine oC rfl ?_ ?_
  ·
   intro c5;refine oS fun _ hK16=>?_;refine oW H3 ?_;simp (maxSteps:=2000000)only[go_sem];repeat(with_reducible refine oA ?_)
   refine hK16 _ ?_;refine A2 ?_;simp only[hres,go_sem];first|exact oF|(refine⟨?_,oF⟩;clear hK1 hK2 hK3 hK4 hK6 hK8 hK10 hK12 hK14 hK15 hK16;simp_all [A3n,A2c,A0I])
  intro c5;refine A3 ?_;simp only[go_sem];refine hK14 _ ?_;refine oS fun _ hK17=>?_;refine oW H3 ?_;simp (maxSteps:=2000000)only[go_sem];repeat(with_reducible refine oA ?_)
  refine hK17 _ ?_;refine A2 ?_;simp only[hres,go_sem];first|exact oF|(refine⟨?_,oF⟩;clear hK1 hK2 hK3 hK4 hK6 hK8 hK10 hK12 hK14 hK15 hK17;simp_all [A3n,A2c,A0I])
def A2t:F8:=fun f=>if f=91 then some (.p A8H) else A5s f
theorem H0:B8 Tryz.prog A2t:=F9 C1e (B6 Tryz.func91 rfl (by decide)) H3
attribute [go_sem] A2t A8H
end Go.Proofs.YtflobmmbhaofbaaGreat
