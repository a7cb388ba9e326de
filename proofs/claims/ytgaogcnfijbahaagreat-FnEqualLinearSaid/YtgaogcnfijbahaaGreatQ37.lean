/-
  Texts of this claim, joined (part 37). No condition beyond those of the theorems.
-/
import Derived.Test.YtgaogcnfijbahaaGreatQ06
import Derived.Test.YtgaogcnfijbahaaGreatQ09
import Derived.Test.YtgaogcnfijbahaaGreatQ05
import Derived.Test.YtgaogcnfijbahaaGreatQ36
import Derived.Test.YtgaogcnfijbahaaGreatQ18
namespace Go.Proofs.YtgaogcnfijbahaaGreat
open Go.RowKit
set_option linter.unusedSimpArgs false
set_option linter.unusedVariables false
set_option maxRecDepth 100000
set_option maxHeartbeats 1000000
def A8i:E4:=fun f=>match Z3 f with
 | some k=>some k
 | none=>e9 f
theorem B4J:B4 Tryz.prog A8i:=N2 A5 D3
attribute [go_sem] A8i T0
def B0h:E4:=fun f=>match A8i f with
 | some k=>some k
 | none=>A56 f
theorem t4:B4 Tryz.prog B0h:=N2 B4J G9
attribute [go_sem] B0h T0
def A3p:Con:=⟨[.val ((.row 2 (.int .i64))),.val (.int .i64)],[⟨.int .i64,true⟩],fun x=>J3 x.2.1 0 9223372036854775807=true,fun x=>x.1.getD (Int.toNat x.2.1) 0⟩
theorem C0G:C9 Tryz.prog 94 A3p:=by
  refine A4 Tryz.func94 rfl ?_
  have hres:Tryz.f94.results.toList=[.tmp 4]:=rfl
  rintro⟨(xs:List Int),(x:Int),_⟩ hc hL
  simp only[A3p,go_sem] at hL
  obtain lxs:=hL
  simp only[A3p,St.init,St.initG,Tryz.ntmps94,go_sem] 
  have hx:0≤x:=(C1.1 (show J3 x _ _=true from hc)).1
  refine oS fun _ hK1=>?_;refine oW t4 ?_;simp only[go_sem];refine hK1 _ ?_;refine oS fun _ hK2=>?_;refine oS fun _ hK3=>?_;refine oW t4 ?_;simp only[go_sem];repeat(with_reducible refine oA ?_)
  refine hK3 _ ?_;refine oC rfl ?_ ?_
  ·
   intro c0;refine oS fun _ hK4=>?_;refine oW t4 ?_;simp only[go_sem];refine hK4 _ ?_;refine A0 ?_;simp only[hres,go_sem];first|exact oF|(refine⟨?_,oF⟩;exact(A8y (by omega)).symm)
  intro c0;refine A2 ?_;simp only[go_sem];refine hK2 _ ?_;refine oS fun _ hK5=>?_;refine oW t4 ?_;simp (maxSteps:=2000000)only[go_sem];repeat(with_reducible refine oA ?_)
  refine hK5 _ ?_;refine A0 ?_;simp only[hres,go_sem];first|exact oF|exact oFr
def A9n:E4:=fun f=>if f=94 then some (.p A3p) else B0h f
theorem y1:B4 Tryz.prog A9n:=E3 C0G (B0 Tryz.func94 rfl (by decide)) t4
attribute [go_sem] A9n A3p
def A6J:Con:=⟨[.val ((.row 2 (.int .i64))),.val (.int .i64)],[⟨.int .i64,true⟩],fun x=>J3 x.2.1 0 9223372036854775807=true,fun x=>x.1.getD (Int.toNat x.2.1) 0⟩
theorem C30:C9 Tryz.prog 109 A6J:=by
  refine A4 Tryz.func109 rfl ?_
  have hres:Tryz.f109.results.toList=[.tmp 4]:=rfl
  rintro⟨(xs:List Int),(x:Int),_⟩ hc hL
  simp only[A6J,go_sem] at hL
  obtain lxs:=hL
  simp only[A6J,St.init,St.initG,Tryz.ntmps109,go_sem] 
  have hx:0≤x:=(C1.1 (show J3 x _ _=true from hc)).1
  have hw:IntKind.i64.wrap ((xs.length:Int) - 1)=xs.length - 1:=F3 (by omega)
  refine oS fun _ hK1=>?_;refine oW y1 ?_;simp only[go_sem];refine hK1 _ ?_;refine oS fun _ hK2=>?_;refine oS fun _ hK3=>?_;refine oW y1 ?_;simp (maxSteps:=2000000)only[hw,go_sem];repeat(with_reducible refine oA ?_)
  refine hK3 _ ?_;refine oC rfl ?_ ?_
  ·
   intro c0;have hq:xs.length≤x.toNat:=by have:=B9l.1 c0;omega
   refine oS fun _ hK4=>?_;refine oW y1 ?_;simp only[go_sem];refine hK4 _ ?_;refine A0 ?_;simp only[hres,go_sem];first|exact oF|(refine⟨?_,oF⟩;exact(A8y hq).symm)
  intro c0;obtain⟨hq1,hq2⟩:=C1.1 c0
  refine A2 ?_;simp only[go_sem];refine hK2 _ ?_;refine oS fun _ hK5=>?_;refine oW y1 ?_;simp (maxSteps:=2000000)only[go_sem];repeat(with_reducible refine oA ?_)
  refine hK5 _ ?_;refine A0 ?_;simp only[hres,go_sem];first|exact oF|exact oFr
def B2j:E4:=fun f=>if f=109 then some (.p A6J) else A9n f
theorem X6:B4 Tryz.prog B2j:=E3 C30 (B0 Tryz.func109 rfl (by decide)) y1
attribute [go_sem] B2j A6J
def l5:Con:=⟨[.ptr (.prod (.int .i64) (.prod (.row 26 (.row 2 (.int .i64))) (.prod (.row 95 (.prod (.int .i64) (.prod (.int .i64) (.prod (.int .i64) (.row 2 (.int .i64)))))) (.row 2 (.int .i64))))),.val ((.row 26 (.row 2 (.int .i64))))],[⟨.bool,true⟩],fun _=>True,fun x=>A7d x.1 x.2.1⟩
theorem B17:C9 Tryz.prog 26 l5:=by
  refine A4 Tryz.func26 rfl ?_
  have hres:Tryz.f26.results.toList=[.tmp 4]:=rfl
  rintro⟨⟨(pi:Int),(ts:List (List Int)),(ns:List A6),(os:List Int)⟩,(ins:List (List Int)),_⟩ hc hL
  simp only[l5,go_sem] at hL
  simp only[l5,St.init,St.initG,Tryz.ntmps26,go_sem] 
  refine oS fun _ hK1=>?_;refine oW X6 ?_;simp only[go_sem];refine hK1 _ ?_;refine oS fun _ hK2=>?_;refine oS fun _ hK3=>?_;refine oW X6 ?_;simp only[go_sem];refine hK3 _ ?_;refine A1 ?_;refine A7 (ι:={ k:Nat // k≤ins.length∧(ins.take k).all A36=true }) (fun k=>⟨[.c (.pt [] ((.prod (.int .i64) (.prod (.row 26 (.row 2 (.int .i64))) (.prod (.row 95 (.prod (.int .i64) (.prod (.int .i64) (.prod (.int .i64) (.row 2 (.int .i64)))))) (.row 2 (.int .i64)))))) (pi,ts,ns,os) 0),.c (.rd [] 26 (.row 2 (.int .i64)) (ins)),zz,zz,zz,.c (.sc (.int .i64 (k.1))),zz,zz,zz,zz,zz,zz,zz,zz,zz,zz,zz,zz,zz,zz,zz,zz,zz,zz,zz],[]⟩) (fun k=>ins.length - k.1) ⟨0,by simp⟩ ?_ ?_
  ·
   refine oK ?_;simp (maxSteps:=2000000)only[go_sem];all_goals(first|rfl|((repeat' refine And.intro ?_ ?_)<;>first|rfl|simp))
  rintro⟨k,hk,hp⟩ K4 hL4
  refine oS fun _ hK5=>?_;refine oS fun _ hK6=>?_;refine oW X6 ?_;simp only[go_sem];refine hK6 _ ?_;refine oC rfl ?_ ?_
  ·
   intro c0;refine A2 ?_;simp only[go_sem];refine hK5 _ ?_;refine oS fun _ hK7=>?_;refine A1 ?_;refine oS fun _ hK8=>?_;refine oW X6 ?_;simp (maxSteps:=2000000)only[go_sem];repeat(with_reducible refine oA ?_)
   refine hK8 _ ?_;refine oC rfl ?_ ?_
   ·
    intro c1;refine oS fun _ hK9=>?_;refine oW X6 ?_;simp only[go_sem];refine hK9 _ ?_;refine A0 ?_;simp only[hres,go_sem]
    first
     | exact oF
     | refine ⟨?_, oF⟩
       have hal:ins.all A36=false:=N5 (k:=k) (d:=[]) (by omega) (by first|assumption|(clear hK1 hK2 hK3 hL4 hK5 hK6 hK7 hK8 hK9;simp_all))
       unfold A7d;rw[hal,Bool.and_false]
   intro c1;refine A2 ?_;simp only[go_sem];refine hK7 _ ?_;refine oW X6 ?_;simp only[go_sem];refine hL4 ⟨k+1,by omega,L6 (d:=[]) (by omega) hp (by first|assumption|(clear hK1 hK2 hK3 hL4 hK5 hK6 hK7 hK8;simp_all))⟩ _ (oK ?_) ?_
   ·
    simp (maxSteps:=2000000)only[go_sem];first|rfl|exact wk (by omega)
   ·
    first|(simp only[];omega)|omega|(simp;omega)
  intro c0;refine B6 ?_;simp only[go_sem];refine hK2 _ ?_;refine oS fun _ hK10=>?_;refine oW X6 ?_;simp (maxSteps:=2000000)only[go_sem];repeat(with_reducible refine oA ?_)
  refine hK10 _ ?_;refine A0 ?_;simp only[hres,go_sem]
  first
   | exact oF
   | refine ⟨?_, oF⟩
     have hal:ins.all A36=true:=L3 hp (by omega)
     unfold A7d;rw[hal,Bool.and_true]
def l8:E4:=fun f=>if f=26 then some (.p l5) else B2j f
theorem z9:B4 Tryz.prog l8:=E3 B17 (B0 Tryz.func26 rfl (by decide)) X6
attribute [go_sem] l8 l5
set_option maxRecDepth 100000
set_option maxHeartbeats 4000000
def B2i:E4:=fun f=>match l8 f with
 | some k=>some k
 | none=>B3e f
theorem V4:B4 Tryz.prog B2i:=N2 z9 R8
attribute [go_sem] B2i T0
def A2I:Con:=⟨[.val ((.row 2 (.int .i64))),.val ((.row 2 (.int .i64)))],[⟨.int .i64,true⟩],fun x=>x.1.length≤x.2.1.length∧x.1.length≤1000000,fun x=>n9 x.1 x.2.1 x.1.length⟩
theorem B6a:C9 Tryz.prog 81 A2I:=by
  refine A4 Tryz.func81 rfl ?_
  have hres:Tryz.f81.results.toList=[.tmp 4]:=rfl
  rintro⟨(xs:List Int),(ys:List Int),_⟩ hc hL
  simp only[A2I,go_sem] at hL
  simp only[A2I,St.init,St.initG,Tryz.ntmps81,go_sem] 
  obtain⟨hx,hy⟩:=(show xs.length≤ys.length∧xs.length≤1000000 from hc)
  refine oS fun _ hK1=>?_;refine oW V4 ?_;simp only[go_sem];refine hK1 _ ?_;refine oS fun _ hK2=>?_;refine oW V4 ?_;simp only[go_sem];refine hK2 _ ?_;refine oS fun _ hK3=>?_;refine oS fun _ hK4=>?_;refine oW V4 ?_;simp only[go_sem];refine hK4 _ ?_;refine A1 ?_;refine A7 (ι:={ k:Nat // k≤xs.length }) (fun k=>⟨[zz,.c (.rd [] 2 (.int .i64) (ys)),zz,zz,zz,.c (.sc (.int .i64 (n9 xs ys k.1))),zz,zz,.c (.rd [] 2 (.int .i64) (xs)),.c (.sc (.int .i64 (xs.length))),.c (.sc (.int .i64 (k.1))),zz,zz,zz,zz,zz,zz,zz,zz,zz,zz,zz,zz,zz,zz,zz],[]⟩) (fun k=>xs.length - k.1) ⟨0,by simp⟩ ?_ ?_
  ·
   refine oK ?_;simp (maxSteps:=2000000)only[go_sem];all_goals(first|rfl|((repeat' refine And.intro ?_ ?_)<;>first|rfl|simp))
  rintro⟨k,hk⟩ K5 hL5
  refine oS fun _ hK6=>?_;refine oW V4 ?_;simp only[go_sem];refine hK6 _ ?_;refine oS fun _ hK7=>?_;refine oC rfl ?_ ?_
  ·
   intro c0;refine A2 ?_;simp only[go_sem];refine hK7 _ ?_;refine oS fun _ hK8=>?_;refine A1 ?_;refine oS fun _ hK9=>?_;refine oW V4 ?_;simp (maxSteps:=2000000)only[go_sem];repeat(with_reducible refine oA ?_)
   refine hK9 _ ?_;refine oW V4 ?_;simp (maxSteps:=2000000)only[A3T,go_sem];repeat(with_reducible refine oA ?_)
   refine hK8 _ ?_;refine oW V4 ?_;simp only[go_sem];refine hL5 ⟨k+1,by omega⟩ _ (oK ?_) ?_
   ·
    simp (maxSteps:=2000000)only[go_sem];all_goals((repeat' refine And.intro ?_ ?_)<;>first|rfl|exact wk (by omega)|(congr 1;done))
   ·
    first|(simp only[];omega)|omega|(simp;omega)
  intro c0;refine B6 ?_;simp only[go_sem];refine hK3 _ ?_;refine oS fun _ hK10=>?_;refine oW V4 ?_;simp only[go_sem];refine hK10 _ ?_;refine A0 ?_;simp only[hres,go_sem];first|exact oF|(refine⟨?_,oF⟩;rw[show xs.length=k by omega])
def A7o:E4:=fun f=>if f=81 then some (.p A2I) else B2i f
theorem S0:B4 Tryz.prog A7o:=E3 B6a (B0 Tryz.func81 rfl (by decide)) V4
attribute [go_sem] A7o A2I
def A0v:Con:=⟨[.val ((.row 2 (.int .i64)))],[⟨(.row 2 (.int .i64)),true⟩],fun x=>x.1.length≤1000,fun x=>U2 x.1⟩
theorem B4a:C9 Tryz.prog 46 A0v:=by
  refine A4 Tryz.func46 rfl ?_
  have hres:Tryz.f46.results.toList=[.tmp 2]:=rfl
  rintro⟨(xs:List Int),_⟩ hc hL
  simp only[A0v,go_sem] at hL
  simp only[A0v,St.init,St.initG,Tryz.ntmps46,go_sem] 
  have hx:xs.length≤1000:=hc
  refine oS fun _ hK1=>?_;refine oW S0 ?_;simp only[go_sem];refine hK1 _ ?_;refine oS fun _ hK2=>?_;refine oW S0 ?_;simp only[go_sem];refine hK2 _ ?_;refine oS fun _ hK3=>?_;refine A1 ?_;refine A7 (ι:={ n:Nat // n≤xs.length∧tl xs xs.length=tl xs n }) (fun k=>⟨[.c (.rd [] 2 (.int .i64) (xs)),zz,zz,.c (.sc (.int .i64 (k.1))),zz,zz,zz,zz,zz,zz,zz,zz,zz,zz,zz,zz,zz,zz,zz,zz,zz,zz,zz,zz,zz],[]⟩) (fun k=>k.1) ⟨xs.length,Nat.le_refl _,rfl⟩ ?_ ?_
  ·
   refine oK ?_;simp (maxSteps:=2000000)only[go_sem];all_goals(first|rfl|((repeat' refine And.intro ?_ ?_)<;>first|rfl|simp))
  rintro⟨n,hn,ht⟩ K4 hL4
  have hwt:0 < n→(IntKind.i64.wrap ((n:Int) - 1)).toNat=n - 1:=fun h=>by rw[F3 (by omega)];omega
  have htl:(List.take n xs).length≤1099511627776:=by rw[List.length_take];omega
  have hwn:0 < n→IntKind.i64.wrap ((n:Int) - 1)=((n - 1:Nat):Int):=fun h=>by rw[F3 (by omega)];omega
  refine oS fun _ hK5=>?_;refine oS fun _ hK6=>?_;have hz:0 < n→((n - 1:Nat):Int).toNat=n - 1:=fun _=>by omega
  refine oW S0 ?_;simp (maxSteps:=2000000)only[go_sem];repeat' (with_reducible first|refine oA ?_|refine And.intro (by first|omega) ?_|refine oT (fun g2=>?_) (fun g2=>?_)|refine oE (fun g2=>?_) (fun g2=>?_))
  all_goals
   refine hK6 _ ?_;refine E2 rfl ?_ ?_
   ·
    intro c0;try simp only[zA,zB,zC,zD,zE,zF,zG,zH,zI] at c0
    all_goals
     refine A2 ?_;simp only[go_sem];refine hK5 _ ?_;refine A1 ?_;refine oW S0 ?_;simp only[go_sem];refine hL4 ⟨n - 1,by omega,C4Z ht (by omega) (by first|assumption|(clear hK1 hK2 hK3 hL4 hK5 hK6;simp_all;done)|(have e:=hwt (by omega);clear hK1 hK2 hK3 hL4 hK5 hK6;simp_all;done)|(have e:=hwt (by omega);clear hK1 hK2 hK3 hL4 hK5 hK6;rw[e] at *;simp_all))⟩ _ (oK ?_) ?_
     ·
      simp (maxSteps:=2000000)only[go_sem];all_goals((repeat' refine And.intro ?_ ?_)<;>first|rfl|(rw[hwn (by omega)];done)|(rw[F3 (by omega)];omega)|(congr 1;done))
     ·
      simp only[];omega
   ·
    intro c0;try simp only[zA,zB,zC,zD,zE,zF,zG,zH,zI] at c0
    all_goals
     refine B6 ?_;simp only[go_sem];refine hK3 _ ?_;refine oS fun _ hK7=>?_;refine oS fun _ hK8=>?_;refine oW S0 ?_;simp only[go_sem];refine hK8 _ ?_;refine E2 rfl ?_ ?_
     ·
      intro c1;try simp only[zA,zB,zC,zD,zE,zF,zG,zH,zI] at c1
      all_goals
       refine oS fun _ hK9=>?_;refine oW S0 ?_;simp only[List.nodup_nil,go_sem];repeat(with_reducible refine oA ?_)
       refine hK9 _ ?_;refine A0 ?_;simp only[hres,go_sem]
       first
        | exact oF
        | refine ⟨?_, oF⟩
          have hn0:n=0:=by omega
          clear hK1 hK2 hK3 hL4 hK5 hK6 hK7 hK8 hK9;subst hn0;exact(C0h ht).symm
     ·
      intro c1;try simp only[zA,zB,zC,zD,zE,zF,zG,zH,zI] at c1
      all_goals
       refine A2 ?_;simp only[go_sem];refine hK7 _ ?_;refine oS fun _ hK10=>?_;refine oW S0 ?_;simp (maxSteps:=2000000)only[go_sem];repeat(with_reducible first|refine oA ?_|refine And.intro (by first|exact htl|omega) ?_)
       refine hK10 _ ?_;refine A0 ?_;simp only[hres,go_sem]
       first
        | exact oF
        | refine ⟨?_, oF⟩
          refine(C26 ht hn (by omega) ?_).symm
          first|(left;omega)|(right;assumption)|(right;have e:=hwn (by omega);rw[e,Int.toNat_natCast] at c0;exact c0)|(right;clear hK1 hK2 hK3 hL4 hK5 hK6 hK7 hK8 hK10;simp_all;done)
def A4z:E4:=fun f=>if f=46 then some (.p A0v) else A7o f
theorem I7:B4 Tryz.prog A4z:=E3 B4a (B0 Tryz.func46 rfl (by decide)) S0
attribute [go_sem] A4z A0v
def A11:Con:=⟨[.val ((.row 2 (.int .i64))),.val ((.row 2 (.int .i64))),.val (.int .i64)],[⟨(.row 2 (.int .i64)),true⟩],fun x=>J3 x.2.2.1 0 1000=true∧x.1.length≤1000,fun x=>t7 x.1 x.2.1 (Int.toNat x.2.2.1)⟩
theorem B6B:C9 Tryz.prog 47 A11:=by
  refine A4 Tryz.func47 rfl ?_
  have hres:Tryz.f47.results.toList=[.tmp 6]:=rfl
  rintro⟨(xs:List Int),(ys:List Int),(nn:Int),_⟩ hc hL
  simp only[A11,go_sem] at hL
  simp only[A11,St.init,St.initG,Tryz.ntmps47,go_sem] 
  obtain⟨hnr,hx⟩:=(show J3 nn 0 1000=true∧xs.length≤1000 from hc)
  obtain⟨hn1,hn2⟩:=C1.1 hnr
  have hzr:J3 nn 0 1099511627776=true:=J8 (by omega) (by omega)
  have hnn:((nn.toNat:Nat):Int)=nn:=Int.toNat_of_nonneg hn1
  refine oS fun _ hK1=>?_;refine oW I7 ?_;simp only[go_sem];refine hK1 _ ?_;refine oS fun _ hK2=>?_;refine oW I7 ?_;simp only[go_sem];repeat(with_reducible first|refine oA ?_|refine And.intro (by first|exact hzr) ?_)
  refine hK2 _ ?_;refine oS fun _ hK3=>?_;refine oS fun _ hK4=>?_;refine oW I7 ?_;simp only[go_sem];refine hK4 _ ?_;refine A1 ?_;refine A7 (ι:={ i:Nat // i≤nn.toNat }) (fun k=>⟨[.c (.rd [] 2 (.int .i64) (xs)),.c (.rd [] 2 (.int .i64) (ys)),zz,zz,zz,zz,zz,.c (.ow 9007),zz,zz,zz,zz,zz,.c (.sc (.int .i64 ((nn.toNat:Nat)))),.c (.sc (.int .i64 (k.1))),zz,zz,zz,zz,zz,zz,zz,zz,zz,zz,zz,zz,zz,zz,zz,zz,zz,zz,zz,zz,zz,zz,zz,zz,zz,zz,zz,zz,zz,zz,zz,zz,zz,zz],[(9007,.row 2 (.int .i64) (cvP xs ys nn.toNat k.1 0) [])]⟩) (fun k=>nn.toNat - k.1) ⟨0,by simp⟩ ?_ ?_
  ·
   refine oK ?_;simp (maxSteps:=2000000)only[go_sem];all_goals((repeat' refine And.intro ?_ ?_)<;>first|rfl|exact(C2y _ _ _).symm|(congr 1;exact(C2y _ _ _).symm)|(congr 1;done)|(simp;done))
  rintro⟨i,hi⟩ K5 hL5
  refine oS fun _ hK6=>?_;refine oW I7 ?_;simp only[go_sem];refine hK6 _ ?_;refine oS fun _ hK7=>?_;refine oC rfl ?_ ?_
  ·
   intro c0;refine A2 ?_;simp only[go_sem];refine hK7 _ ?_;refine oS fun _ hK8=>?_;refine A1 ?_;refine oS fun _ hK9=>?_;refine oW I7 ?_;simp only[go_sem];refine hK9 _ ?_;refine oS fun _ hK10=>?_;refine oW I7 ?_;simp only[go_sem];refine hK10 _ ?_;refine A1 ?_;refine A7 (ι:={ j:Nat // j≤i+1∧j≤xs.length }) (fun k'=>⟨[.c (.rd [] 2 (.int .i64) (xs)),.c (.rd [] 2 (.int .i64) (ys)),zz,zz,zz,zz,zz,.c (.ow 9007),.c (.sc (.int .i64 (i))),.c (.sc (.int .i64 (k'.1))),zz,zz,zz,.c (.sc (.int .i64 ((nn.toNat:Nat)))),.c (.sc (.int .i64 (i))),zz,zz,zz,zz,zz,zz,zz,zz,zz,zz,zz,zz,zz,zz,zz,zz,zz,zz,zz,zz,zz,zz,zz,zz,zz,zz,zz,zz,zz,zz,zz,zz,zz,zz],[(9007,.row 2 (.int .i64) (cvP xs ys nn.toNat i k'.1) [])]⟩) (fun k'=>xs.length - k'.1) ⟨0,by omega,by omega⟩ ?_ ?_
   ·
    refine oK ?_;simp (maxSteps:=2000000)only[go_sem];all_goals((repeat' refine And.intro ?_ ?_)<;>first|rfl|(congr 1;done)|(simp;done))
   rintro⟨j,hj,hj2⟩ K11 hL11
   have hvl:=V6 xs ys nn.toNat i j
   refine oS fun _ hK12=>?_;refine oS fun _ hK13=>?_;refine oW I7 ?_;simp (maxSteps:=2000000)only[go_sem];repeat' (with_reducible first|refine oA ?_|refine oT (fun g6=>?_) (fun g6=>?_)|refine oE (fun g6=>?_) (fun g6=>?_))
   all_goals
    refine hK13 _ ?_;refine E2 rfl ?_ ?_
    ·
     intro c1;try simp only[zA,zB,zC,zD,zE,zF,zG,zH,zI] at c1
     all_goals
      have hji:j≤i:=by omega
      have hwj:IntKind.i64.wrap ((i:Int) - (j:Int))=((i - j:Nat):Int):=by rw[F3 (by omega)];omega
      have hjr:J3 ((i - j:Nat):Int) 0 9223372036854775807=true:=J8 (by omega) (by omega)
      have hnx:=B4Z (p:=xs) (a:=ys) (n:=nn.toNat) (i:=i) (k:=j) (by omega) hji
      refine A2 ?_;simp only[go_sem];refine hK12 _ ?_;refine oS fun _ hK14=>?_;refine A1 ?_
      refine oR I7
        [[],[],[],[],[2,3],[2,3,4],[],[],[6,7],[6,7,8],[],[],[],[11,12],[10,11,12,13],[6,7,8,9,10,11,12,13,14],[2,3,4,5,6,7,8,9,10,11,12,13,14,15],[2,3,4,5,6,7,8,9,10,11,12,13,14,15,16],[0,1,2,3,4,5,6,7,8,9,10,11,12,13,14,15,16,17],[0,1,2,3,4,5,6,7,8,9,10,11,12,13,14,15,16,17,18]]
        [[],[],[],[],[],[],[],[],[],[],[],[],[],[],[],[],[],[],[],[]]
        [[],[],[],[],[],[],[],[],[],[],[],[],[],[],[],[],[],[],[],[]] (by kernel_rfl) (by kernel_rfl) (A9 (acc:=[]) ?_)
      simp (maxSteps:=2000000)only[hwj,hvl,A3T,Int.toNat_natCast,go_sem];repeat(with_reducible first|refine oD ?_|refine And.intro (by first|exact hjr|omega) ?_)
      refine hK14 _ ?_;refine oW I7 ?_;simp only[go_sem];refine hL11 ⟨j+1,by omega,by omega⟩ _ (oK ?_) ?_
      ·
       simp (maxSteps:=2000000)only[go_sem];all_goals((repeat' refine And.intro ?_ ?_)<;>first|rfl|exact wk (by omega)|exact hnx|(congr 1;exact hnx)|(congr 1;done))
      ·
       first|(simp only[];omega)|omega|(simp;omega)
    ·
     intro c1;try simp only[zA,zB,zC,zD,zE,zF,zG,zH,zI] at c1
     all_goals
      have hqe:cvP xs ys nn.toNat i j=cvP xs ys nn.toNat (i+1) 0:=B9P (by omega)
      refine B6 ?_;simp only[go_sem];refine hK8 _ ?_;refine oW I7 ?_;simp only[go_sem];refine hL5 ⟨i+1,by omega⟩ _ (oK ?_) ?_
      ·
       simp (maxSteps:=2000000)only[go_sem];all_goals((repeat' refine And.intro ?_ ?_)<;>first|rfl|exact wk (by omega)|exact hqe|(congr 1;exact hqe)|(congr 1;done))
      ·
       first|(simp only[];omega)|omega|(simp;omega)
  intro c0;have hie:cvP xs ys nn.toNat i 0=t7 xs ys nn.toNat:=B8u (by omega)
  refine B6 ?_;simp only[go_sem];refine hK3 _ ?_;refine oS fun _ hK15=>?_;refine oW I7 ?_;simp only[go_sem];refine hK15 _ ?_;refine A0 ?_;simp only[hres,go_sem];first|exact oF|(refine⟨?_,oF⟩;exact hie)
def A5d:E4:=fun f=>if f=47 then some (.p A11) else A4z f
theorem C5:B4 Tryz.prog A5d:=E3 B6B (B0 Tryz.func47 rfl (by decide)) I7
attribute [go_sem] A5d A11
end Go.Proofs.YtgaogcnfijbahaaGreat
