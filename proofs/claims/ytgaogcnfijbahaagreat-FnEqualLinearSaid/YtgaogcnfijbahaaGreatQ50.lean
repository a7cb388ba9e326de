/-
  Texts of this claim, joined (part 50). No condition beyond those of the theorems.
-/
import Derived.Test.YtgaogcnfijbahaaGreatQ49
import Derived.Test.YtgaogcnfijbahaaGreatQ22
import Derived.Test.YtgaogcnfijbahaaGreatQ21
namespace Go.Proofs.YtgaogcnfijbahaaGreat
open Go.RowKit
set_option linter.unusedSimpArgs false
set_option linter.unusedVariables false
set_option maxRecDepth 100000
set_option maxHeartbeats 8000000
def B3S:E4:=fun f=>match A3J f with
 | some k=>some k
 | none=>A2g f
theorem A2u:B4 Tryz.prog B3S:=N2 A9F A4q
attribute [go_sem] B3S T0
def A3g:Con:=⟨[.val ((.row 2 (.int .i64)))],[⟨.bool,true⟩],fun _=>True,fun x=>A30 x.1⟩
theorem C01:C9 Tryz.prog 146 A3g:=by
  refine A4 Tryz.func146 rfl ?_
  have hres:Tryz.f146.results.toList=[.tmp 2]:=rfl
  rintro⟨(xs:List Int),_⟩ hc hL
  simp only[A3g,go_sem] at hL
  obtain lxs:=hL
  simp only[A3g,St.init,St.initG,Tryz.ntmps146,go_sem] 
  have hwx:IntKind.i64.wrap ((xs.length:Int) - 1)=(xs.length:Int) - 1:=F3 (by omega)
  have hwt:((xs.length:Int) - 1).toNat=xs.length - 1:=by omega
  refine oS fun _ hK1=>?_;refine oW A2u ?_;simp only[go_sem];refine hK1 _ ?_;refine oS fun _ hK2=>?_;refine oW A2u ?_;simp only[go_sem];refine hK2 _ ?_;refine oS fun _ hK3=>?_;refine oW A2u ?_;simp (maxSteps:=2000000)only[hwx,hwt,go_sem];repeat' (with_reducible first|refine oA ?_|refine And.intro (by first|omega) ?_|refine oT (fun g2=>?_) (fun g2=>?_)|refine oE (fun g2=>?_) (fun g2=>?_))
  all_goals
   refine hK3 _ ?_;refine A0 ?_;simp only[hres,go_sem]
   first
    | exact oF
    | refine ⟨?_, oF⟩
      clear hK1 hK2 hK3;unfold A30;have z1:((xs.length:Int)≥1)↔1≤xs.length:=by omega
      have z2:((xs.length:Int)≤65)↔xs.length≤65:=by omega
      have z3:((xs.length:Int)=1)↔xs.length=1:=by omega
      try simp only[z1,z2,z3] at *
      clear hwx hwt;first|rfl|(simp_all;done)|(cases hs:D9 xs<;>simp_all;done)|(by_cases q1:xs.length=1<;>cases hs:D9 xs<;>simp_all;done)|(clear hL hc;by_cases q0:1≤xs.length<;>by_cases q2:xs.length≤65<;>by_cases q1:xs.length=1<;>cases hs:D9 xs<;>simp[*] at *<;>done)|(by_cases q0:1≤xs.length<;>by_cases q2:xs.length≤65<;>by_cases q1:xs.length=1<;>cases hs:D9 xs<;>simp_all<;>omega)
def A9q:E4:=fun f=>if f=146 then some (.p A3g) else B3S f
theorem S9:B4 Tryz.prog A9q:=E3 C01 (B0 Tryz.func146 rfl (by decide)) A2u
attribute [go_sem] A9q A3g
def A1C:Con:=⟨[.val ((.row 26 (.row 2 (.int .i64))))],[⟨.bool,true⟩],fun _=>True,fun x=>x.1.all A30⟩
theorem B68:C9 Tryz.prog 129 A1C:=by
  refine A4 Tryz.func129 rfl ?_
  have hres:Tryz.f129.results.toList=[.tmp 2]:=rfl
  rintro⟨(aa:List (List Int)),_⟩ hc hL
  simp only[A1C,go_sem] at hL
  obtain⟨laa,laa2⟩:=hL;simp only[A1C,St.init,St.initG,Tryz.ntmps129,go_sem] 
  refine oS fun _ hK1=>?_;refine oW S9 ?_;simp only[go_sem];refine hK1 _ ?_;refine oS fun _ hK2=>?_;refine oS fun _ hK3=>?_;refine oW S9 ?_;simp only[go_sem];refine hK3 _ ?_;refine A1 ?_;refine A7 (ι:={ k:Nat // k≤aa.length∧(aa.take k).all A30=true }) (fun k=>⟨[zz,zz,zz,zz,zz,.c (.rd [] 26 (.row 2 (.int .i64)) (aa)),.c (.sc (.int .i64 (aa.length))),.c (.sc (.int .i64 (k.1))),zz,zz,zz,zz,zz,zz,zz],[]⟩) (fun k=>aa.length - k.1) ⟨0,by simp⟩ ?_ ?_
  ·
   refine oK ?_;simp (maxSteps:=2000000)only[go_sem];all_goals(first|rfl|((repeat' refine And.intro ?_ ?_)<;>first|rfl|simp))
  rintro⟨k,hk,hp⟩ K4 hL4
  refine oS fun _ hK5=>?_;refine oW S9 ?_;simp only[go_sem];refine hK5 _ ?_;refine oS fun _ hK6=>?_;refine oC rfl ?_ ?_
  ·
   intro c0;refine A2 ?_;simp only[go_sem];refine hK6 _ ?_;refine oS fun _ hK7=>?_;refine A1 ?_;refine oS fun _ hK8=>?_;refine oW S9 ?_;simp only[go_sem];repeat(with_reducible refine oA ?_)
   refine hK8 _ ?_;refine oS fun _ hK9=>?_;refine oW S9 ?_;simp only[go_sem];repeat(with_reducible refine oA ?_)
   refine hK9 _ ?_;refine oC rfl ?_ ?_
   ·
    intro c1;refine oS fun _ hK10=>?_;refine oW S9 ?_;simp only[go_sem];refine hK10 _ ?_;refine A0 ?_;simp only[hres,go_sem];first|exact oF|(refine⟨?_,oF⟩;exact(N5 (k:=k) (d:=[]) (by omega) (by first|assumption|(clear hp;clear hK1 hK2 hK3 hL4 hK5 hK6 hK7 hK8 hK9 hK10;simp_all))).symm)
   intro c1;refine A2 ?_;simp only[go_sem];refine hK7 _ ?_;refine oW S9 ?_;simp only[go_sem];refine hL4 ⟨k+1,by omega,L6 (d:=[]) (by omega) hp (by first|assumption|(clear hK1 hK2 hK3 hL4 hK5 hK6 hK7 hK8 hK9;simp_all))⟩ _ (oK ?_) ?_
   ·
    simp (maxSteps:=2000000)only[go_sem];first|rfl|exact wk (by omega)
   ·
    first|(simp only[];omega)|omega|(simp;omega)
  intro c0;refine B6 ?_;simp only[go_sem];refine hK2 _ ?_;refine oS fun _ hK11=>?_;refine oW S9 ?_;simp only[go_sem];refine hK11 _ ?_;refine A0 ?_;simp only[hres,go_sem];first|exact oF|(refine⟨?_,oF⟩;exact(L3 hp (by omega)).symm)
def A55:E4:=fun f=>if f=129 then some (.p A1C) else A9q f
theorem A1d:B4 Tryz.prog A55:=E3 B68 (B0 Tryz.func129 rfl (by decide)) S9
attribute [go_sem] A55 A1C
def A66:Con:=⟨[.val ((.prod (.row 2 (.int .i64)) (.row 2 (.int .i64))))],[⟨.bool,true⟩],fun x=>1≤x.1.2.length,fun x=>trB x.1⟩
theorem C1h:C9 Tryz.prog 78 A66:=by
  refine A4 Tryz.func78 rfl ?_
  have hres:Tryz.f78.results.toList=[.tmp 2]:=rfl
  rintro⟨⟨(xa:List Int),(xb:List Int)⟩,_⟩ hc hL
  simp only[A66,go_sem] at hL
  simp only[A66,St.init,St.initG,Tryz.ntmps78,go_sem] 
  have hc1:1≤xb.length:=hc
  refine oS fun _ hK1=>?_;refine oW A1d ?_;simp only[go_sem];refine hK1 _ ?_;refine oS fun _ hK2=>?_;refine oW A1d ?_;simp (maxSteps:=2000000)only[List.nodup_cons,List.nodup_nil,List.not_mem_nil,not_false_eq_true,go_sem];repeat' (with_reducible first|refine oA ?_|refine And.intro (by first|omega) ?_|refine oT (fun g1=>?_) (fun g1=>?_)|refine oE (fun g1=>?_) (fun g1=>?_))
  all_goals
   refine hK2 _ ?_;refine A0 ?_;simp only[hres,go_sem]
   first
    | exact oF
    | refine ⟨?_, oF⟩
      clear hK1 hK2;unfold trB;first|rfl|(cases ha:A30 xa<;>cases hb:A30 xb<;>simp_all;done)
def B3m:E4:=fun f=>if f=78 then some (.p A66) else A55 f
theorem V2:B4 Tryz.prog B3m:=E3 C1h (B0 Tryz.func78 rfl (by decide)) A1d
attribute [go_sem] B3m A66
def A4E:Con:=⟨[.val ((.row 50 (.prod (.row 2 (.int .i64)) (.row 2 (.int .i64)))))],[⟨.bool,true⟩],fun x=>∀k:Nat,k < x.1.length→1≤(x.1.getD k (([],[]):TrD)).2.length,fun x=>x.1.all trB⟩
theorem B9f:C9 Tryz.prog 40 A4E:=by
  refine A4 Tryz.func40 rfl ?_
  have hres:Tryz.f40.results.toList=[.tmp 2]:=rfl
  rintro⟨(zs:List TrD),_⟩ hc hL
  simp only[A4E,go_sem] at hL
  obtain⟨lzs,lzs2⟩:=hL;simp only[A4E,St.init,St.initG,Tryz.ntmps40,go_sem] 
  have hc1:∀k:Nat,k < zs.length→1≤(zs.getD k (([],[]):TrD)).2.length:=hc
  refine oS fun _ hK1=>?_;refine oW V2 ?_;simp only[go_sem];refine hK1 _ ?_;refine oS fun _ hK2=>?_;refine oS fun _ hK3=>?_;refine oW V2 ?_;simp only[go_sem];refine hK3 _ ?_;refine A1 ?_;refine A7 (ι:={ k:Nat // k≤zs.length∧(zs.take k).all trB=true }) (fun k=>⟨[zz,zz,zz,zz,zz,.c (.rd [] 50 ((.prod (.row 2 (.int .i64)) (.row 2 (.int .i64)))) (zs)),.c (.sc (.int .i64 (zs.length))),.c (.sc (.int .i64 (k.1))),zz,zz,zz,zz,zz,zz,zz],[]⟩) (fun k=>zs.length - k.1) ⟨0,by simp⟩ ?_ ?_
  ·
   refine oK ?_;simp (maxSteps:=2000000)only[go_sem];all_goals(first|rfl|((repeat' refine And.intro ?_ ?_)<;>first|rfl|simp))
  rintro⟨k,hk,hp⟩ K4 hL4
  refine oS fun _ hK5=>?_;refine oW V2 ?_;simp only[go_sem];refine hK5 _ ?_;refine oS fun _ hK6=>?_;refine oC rfl ?_ ?_
  ·
   intro c0;refine A2 ?_;simp only[go_sem];refine hK6 _ ?_;refine oS fun _ hK7=>?_;refine A1 ?_;refine oS fun _ hK8=>?_;refine oW V2 ?_;simp only[go_sem];repeat(with_reducible refine oA ?_)
   refine hK8 _ ?_;refine oS fun _ hK9=>?_;refine oW V2 ?_;simp only[List.nodup_cons,List.nodup_nil,List.not_mem_nil,not_false_eq_true,go_sem];repeat(with_reducible first|refine oA ?_|refine And.intro (by first|exact hc1 k (by omega)) ?_)
   refine hK9 _ ?_;refine oC rfl ?_ ?_
   ·
    intro c1;refine oS fun _ hK10=>?_;refine oW V2 ?_;simp only[go_sem];refine hK10 _ ?_;refine A0 ?_;simp only[hres,go_sem];first|exact oF|(refine⟨?_,oF⟩;exact(N5 (k:=k) (d:=(([],[]):TrD)) (by omega) (by first|assumption|(clear hp;clear hK1 hK2 hK3 hL4 hK5 hK6 hK7 hK8 hK9 hK10;simp_all))).symm)
   intro c1;refine A2 ?_;simp only[go_sem];refine hK7 _ ?_;refine oW V2 ?_;simp only[go_sem];refine hL4 ⟨k+1,by omega,L6 (d:=(([],[]):TrD)) (by omega) hp (by first|assumption|(clear hK1 hK2 hK3 hL4 hK5 hK6 hK7 hK8 hK9;simp_all))⟩ _ (oK ?_) ?_
   ·
    simp (maxSteps:=2000000)only[go_sem];first|rfl|exact wk (by omega)
   ·
    first|(simp only[];omega)|omega|(simp;omega)
  intro c0;refine B6 ?_;simp only[go_sem];refine hK2 _ ?_;refine oS fun _ hK11=>?_;refine oW V2 ?_;simp only[go_sem];refine hK11 _ ?_;refine A0 ?_;simp only[hres,go_sem];first|exact oF|(refine⟨?_,oF⟩;exact(L3 hp (by omega)).symm)
def B0V:E4:=fun f=>if f=40 then some (.p A4E) else B3m f
theorem L5:B4 Tryz.prog B0V:=E3 B9f (B0 Tryz.func40 rfl (by decide)) V2
attribute [go_sem] B0V A4E
def A1p:Con:=⟨[.val ((.row 2 (.int .i64))),.val ((.row 2 (.int .i64)))],[⟨(.row 2 (.int .i64)),true⟩],fun x=>x.1.length≤400∧x.2.1.length≤400,fun x=>m7 x.1 x.2.1⟩
theorem B6N:C9 Tryz.prog 42 A1p:=by
  refine A4 Tryz.func42 rfl ?_
  have hres:Tryz.f42.results.toList=[.tmp 4]:=rfl
  rintro⟨(xs:List Int),(ys:List Int),_⟩ hc hL
  simp only[A1p,go_sem] at hL
  simp only[A1p,St.init,St.initG,Tryz.ntmps42,go_sem] 
  obtain⟨hx,hy⟩:=(show xs.length≤400∧ys.length≤400 from hc)
  have hwN:IntKind.i64.wrap ((xs.length:Int)+(ys.length:Int))=(xs.length:Int)+(ys.length:Int):=F3 (by omega)
  have htN:Int.toNat ((xs.length:Int)+(ys.length:Int))=(xs.length+ys.length):=by omega
  have hzr:J3 ((xs.length:Int)+(ys.length:Int)) 0 1099511627776=true:=J8 (by omega) (by omega)
  refine oS fun _ hK1=>?_;refine oW L5 ?_;simp only[go_sem];refine hK1 _ ?_;refine oS fun _ hK2=>?_;refine oW L5 ?_;simp (maxSteps:=2000000)only[hwN,htN,go_sem];repeat(with_reducible first|refine oA ?_|refine And.intro (by first|exact hzr) ?_)
  refine hK2 _ ?_;refine oS fun _ hK3=>?_;refine oS fun _ hK4=>?_;refine oW L5 ?_;simp only[go_sem];refine hK4 _ ?_;refine A1 ?_;refine A7 (ι:={ i:Nat // i≤xs.length }) (fun k=>⟨[zz,.c (.rd [] 2 (.int .i64) (ys)),zz,zz,zz,.c (.ow 9005),zz,zz,zz,zz,zz,zz,zz,zz,zz,zz,.c (.rd [] 2 (.int .i64) (xs)),.c (.sc (.int .i64 (xs.length))),.c (.sc (.int .i64 (k.1))),zz,zz,zz,zz,zz,zz,zz,zz,zz,zz,zz,zz,zz,zz,zz,zz,zz,zz,zz,zz,zz,zz,zz,zz,zz,zz,zz,zz,zz,zz,zz],[(9005,.row 2 (.int .i64) (mlP xs ys (xs.length+ys.length) k.1 0) [])]⟩) (fun k=>xs.length - k.1) ⟨0,by simp⟩ ?_ ?_
  ·
   refine oK ?_;simp (maxSteps:=2000000)only[go_sem];all_goals((repeat' refine And.intro ?_ ?_)<;>first|rfl|exact(C6a _ _ _).symm|(congr 1;exact(C6a _ _ _).symm)|(congr 1;done)|(simp;done))
  rintro⟨i,hi⟩ K5 hL5
  refine oS fun _ hK6=>?_;refine oW L5 ?_;simp only[go_sem];refine hK6 _ ?_;refine oS fun _ hK7=>?_;refine oC rfl ?_ ?_
  ·
   intro c0;refine A2 ?_;simp only[go_sem];refine hK7 _ ?_;refine oS fun _ hK8=>?_;refine A1 ?_;refine oS fun _ hK9=>?_;refine oW L5 ?_;simp (maxSteps:=2000000)only[go_sem];repeat(with_reducible refine oA ?_)
   refine hK9 _ ?_;refine oS fun _ hK10=>?_;refine oW L5 ?_;simp only[go_sem];refine hK10 _ ?_;refine A1 ?_;refine A7 (ι:={ j:Nat // j≤ys.length }) (fun k'=>⟨[zz,.c (.rd [] 2 (.int .i64) (ys)),zz,zz,zz,.c (.ow 9005),.c (.sc (.int .i64 (i))),.c (.sc (.int .i64 (xs.getD i 0))),zz,zz,zz,zz,zz,zz,zz,zz,.c (.rd [] 2 (.int .i64) (xs)),.c (.sc (.int .i64 (xs.length))),.c (.sc (.int .i64 (i))),zz,zz,zz,zz,.c (.rd [] 2 (.int .i64) (ys)),.c (.sc (.int .i64 (ys.length))),.c (.sc (.int .i64 (k'.1))),zz,zz,zz,zz,zz,zz,zz,zz,zz,zz,zz,zz,zz,zz,zz,zz,zz,zz,zz,zz,zz,zz,zz,zz],[(9005,.row 2 (.int .i64) (mlP xs ys (xs.length+ys.length) i k'.1) [])]⟩) (fun k'=>ys.length - k'.1) ⟨0,by simp⟩ ?_ ?_
   ·
    refine oK ?_;simp (maxSteps:=2000000)only[go_sem];all_goals((repeat' refine And.intro ?_ ?_)<;>first|rfl|(congr 1;done)|(simp;done))
   rintro⟨j,hj⟩ K11 hL11
   have hml:=V3 xs ys (xs.length+ys.length) i j
   refine oS fun _ hK12=>?_;refine oW L5 ?_;simp only[go_sem];refine hK12 _ ?_;refine oS fun _ hK13=>?_;refine oC rfl ?_ ?_
   ·
    intro c1;have hwi:IntKind.i64.wrap ((i:Int)+(j:Int))=((i+j:Nat):Int):=by rw[F3 (by omega)];omega
    have hnx:=C1N (a:=xs) (b:=ys) (N:=(xs.length+ys.length)) (i:=i) (k:=j) (by omega)
    refine A2 ?_;simp only[go_sem];refine hK13 _ ?_;refine oS fun _ hK14=>?_;refine A1 ?_;refine oS fun _ hK15=>?_;refine oW L5 ?_;simp (maxSteps:=2000000)only[go_sem];repeat(with_reducible refine oA ?_)
    refine hK15 _ ?_;refine oW L5 ?_;simp (maxSteps:=2000000)only[hml,hwi,A3T,Int.toNat_natCast,go_sem];repeat(with_reducible first|refine oA ?_|refine And.intro (by first|omega) ?_)
    refine hK14 _ ?_;refine oW L5 ?_;simp only[go_sem];refine hL11 ⟨j+1,by omega⟩ _ (oK ?_) ?_
    ·
     simp (maxSteps:=2000000)only[go_sem];all_goals((repeat' refine And.intro ?_ ?_)<;>first|rfl|exact wk (by omega)|exact hnx|(congr 1;exact hnx)|(congr 1;done))
    ·
     first|(simp only[];omega)|omega|(simp;omega)
   intro c1;have hje:ys.length≤j:=by omega
   have hqe:mlP xs ys (xs.length+ys.length) i j=mlP xs ys (xs.length+ys.length) (i+1) 0:=C4j hje
   refine B6 ?_;simp only[go_sem];refine hK8 _ ?_;refine oW L5 ?_;simp only[go_sem];refine hL5 ⟨i+1,by omega⟩ _ (oK ?_) ?_
   ·
    simp (maxSteps:=2000000)only[go_sem];all_goals((repeat' refine And.intro ?_ ?_)<;>first|rfl|exact wk (by omega)|exact hqe|(congr 1;exact hqe)|(congr 1;done))
   ·
    first|(simp only[];omega)|omega|(simp;omega)
  intro c0;have hie:xs.length≤i:=by omega
  have hfin:mlP xs ys (xs.length+ys.length) i 0=t7 xs ys (xs.length+ys.length):=C5n hie
  have hlM:(mlP xs ys (xs.length+ys.length) i 0).length≤1000:=by rw[V3];omega
  refine B6 ?_;simp only[go_sem];refine hK3 _ ?_;refine oS fun _ hK16=>?_;refine oW L5 ?_;simp only[go_sem];repeat(with_reducible first|refine oA ?_|refine And.intro (by first|exact hlM) ?_)
  refine hK16 _ ?_;refine A0 ?_;simp only[hres,go_sem]
  first
   | exact oF
   | refine ⟨?_, oF⟩
     rw[hfin];first|done|rfl
def A6q:E4:=fun f=>if f=42 then some (.p A1p) else B0V f
theorem A2S:B4 Tryz.prog A6q:=E3 B6N (B0 Tryz.func42 rfl (by decide)) L5
attribute [go_sem] A6q A1p
def A39:Con:=⟨[.val ((.prod (.row 2 (.int .i64)) (.row 2 (.int .i64)))),.val ((.prod (.row 2 (.int .i64)) (.row 2 (.int .i64))))],[⟨.bool,true⟩],fun x=>(trB x.1=true∧trB x.2.1=true),fun x=>i9 x.1 x.2.1⟩
theorem C13:C9 Tryz.prog 19 A39:=by
  refine A4 Tryz.func19 rfl ?_
  have hres:Tryz.f19.results.toList=[.tmp 4]:=rfl
  rintro⟨⟨(xa:List Int),(xb:List Int)⟩,⟨(xa2:List Int),(xb2:List Int)⟩,_⟩ hc hL
  simp only[A39,go_sem] at hL
  simp only[A39,St.init,St.initG,Tryz.ntmps19,go_sem] 
  obtain⟨ht1,ht2⟩:=(show trB (xa,xb)=true∧trB (xa2,xb2)=true from hc)
  obtain⟨⟨_,h1,_⟩,⟨h2a,h2,_⟩,_⟩:=B8o ht1
  obtain⟨⟨_,h3,_⟩,⟨h4a,h4,_⟩,_⟩:=B8o ht2
  have h1:xa.length≤65:=h1
  have h2:xb.length≤65:=h2
  have h3:xa2.length≤65:=h3
  have h4:xb2.length≤65:=h4
  have h2a:1≤xb.length:=h2a
  have h4a:1≤xb2.length:=h4a
  have hm1:xa.length≤400∧xb2.length≤400:=⟨by omega,by omega⟩
  have hm2:xa2.length≤400∧xb.length≤400:=⟨by omega,by omega⟩
  have hal:[(xa,xb),(xa2,xb2)].all trB=true:=by simp only[List.all_cons,List.all_nil,ht1,ht2,Bool.and_true]
  have har:∀k:Nat,k < [(xa,xb),(xa2,xb2)].length→1≤([(xa,xb),(xa2,xb2)].getD k (([],[]):TrD)).2.length:=fun k hk=>by match k,hk with|0,_=>exact h2a|1,_=>exact h4a
  have har2:∀k:Nat,k < 2→1≤([(xa,xb),(xa2,xb2)].getD k (([],[]):TrD)).2.length:=har
  refine oS fun _ hK1=>?_;refine oW A2S ?_;simp only[go_sem];refine hK1 _ ?_;refine oS fun _ hK2=>?_
  refine oR A2S
    [[],[],[0,1],[0,1,2],[0,1,2,3],[0,1,2,3,4],[0,1,2,3,4,5],[0,1,2,3,4],[0,1,2,3,4,7],[0,1,2,3,4,5,6,7,8],[0,1,2,3,4],[0,1,2,3,4,10],[0,1,2,3,4],[0,1,2,3,4,12],[0,1,2,3,4,5,6,7,8,9,10,11,12,13],[0,1,2,3,4,5,6,7,8,9,10,11,12,13,14],[0,1,2,3,4,5,6,7,8,9,10,11,12,13,14,15],[0,1,2,3,4,5,6,7,8,9,10,11,12,13,14,15,16]]
    [[],[],[],[],[],[],[],[],[],[],[324,325,326,327,328,329,330,331,332,333,334,335,336,337,338,339],[324,325,326,327,328,329,330,331,332,333,334,335,336,337,338,339],[324,325,326,327,328,329,330,331,332,333,334,335,336,337,338,339],[324,325,326,327,328,329,330,331,332,333,334,335,336,337,338,339],[],[],[],[]]
    [[],[],[],[],[],[],[],[],[],[324,325,326,327,328,329,330,331,332,333,334,335,336,337,338,339],[],[],[],[],[],[],[],[]] (by kernel_rfl) (by kernel_rfl) (A9 (acc:=[]) ?_)
  simp (maxSteps:=2000000)only[List.nodup_cons,List.nodup_nil,List.not_mem_nil,not_false_eq_true,hal,go_sem];repeat' (with_reducible first|refine oD ?_|refine And.intro (by first|exact har|exact har2|exact hm1|exact hm2) ?_|refine oT (fun g1=>?_) (fun g1=>?_)|refine oE (fun g1=>?_) (fun g1=>?_))
  all_goals
   refine hK2 _ ?_;refine A0 ?_;simp only[hres,go_sem];first|exact oF|(refine⟨?_,oF⟩;first|rfl|(clear hK1 hK2;simp_all [i9];done))
def A8q:E4:=fun f=>if f=19 then some (.p A39) else A6q f
theorem I0:B4 Tryz.prog A8q:=E3 C13 (B0 Tryz.func19 rfl (by decide)) A2S
attribute [go_sem] A8q A39
def x5:Con:=⟨[.val ((.prod (.int .i64) (.prod (.row 26 (.row 2 (.int .i64))) (.prod (.row 95 (.prod (.int .i64) (.prod (.int .i64) (.prod (.int .i64) (.row 2 (.int .i64)))))) (.row 2 (.int .i64)))))),.val ((.prod (.int .i64) (.prod (.row 26 (.row 2 (.int .i64))) (.prod (.row 95 (.prod (.int .i64) (.prod (.int .i64) (.prod (.int .i64) (.row 2 (.int .i64)))))) (.row 2 (.int .i64))))))],[⟨.bool,true⟩,⟨.int .i64,true⟩],fun _=>True,fun x=>A7J x.1 x.2.1⟩
theorem B46:C9 Tryz.prog 6 x5:=by
  refine A4 Tryz.func6 rfl ?_
  have hres:Tryz.f6.results.toList=[.tmp 4,.tmp 5]:=rfl
  rintro⟨⟨(pi:Int),(ts:List (List Int)),(ns:List A6),(os:List Int)⟩,⟨(pi2:Int),(ts2:List (List Int)),(ns2:List A6),(os2:List Int)⟩,_⟩ hc hL
  simp only[x5,go_sem] at hL
  simp only[x5,St.init,St.initG,Tryz.ntmps6,go_sem] 
  rcases hX:F6 (D0 (pi,ts,ns,os)) with⟨ni,la,lb,lc,ld⟩
  rcases hY:F6 (D0 (pi2,ts2,ns2,os2)) with⟨ni2,la2,lb2,lc2,ld2⟩
  refine oS fun _ hK1=>?_;refine oW I0 ?_;simp only[go_sem];refine hK1 _ ?_;refine oS fun _ hK2=>?_;refine oS fun _ hK3=>?_;refine oW I0 ?_;simp (maxSteps:=2000000)only[List.nodup_cons,List.nodup_nil,List.not_mem_nil,not_false_eq_true,go_sem];repeat(with_reducible refine oA ?_)
  refine hK3 _ ?_;refine oS fun _ hK4=>?_;refine oW I0 ?_;simp only[go_sem];refine hK4 _ ?_;refine oC rfl ?_ ?_
  ·
   intro c0;refine oS fun _ hK5=>?_;refine oW I0 ?_;simp only[go_sem];refine hK5 _ ?_;refine A0 ?_;simp only[hres,go_sem]
   first
    | exact oF
    | refine ⟨?_, oF⟩
      have hl1:¬O8 [(pi,ts,ns,os),(pi2,ts2,ns2,os2)]=0:=by assumption
      first|(rw[C2k hl1];exact⟨rfl,rfl⟩)|(rw[C2k hl1];done)
  intro c0;have hl0:O8 [(pi,ts,ns,os),(pi2,ts2,ns2,os2)]=0:=by first|assumption|omega
  obtain⟨htw,hk,hk2⟩:=C4K hl0
  obtain⟨hW,ha1,hni,hlo,hsq⟩:=A5u hk hX
  obtain⟨hW2,ha2,hni2,hlo2,hsq2⟩:=A5u hk2 hY
  have hni:ni=pi:=hni
  have hlo:lc.length=os.length:=hlo
  have hni2:ni2=pi2:=hni2
  have hlo2:lc2.length=os2.length:=hlo2
  have hpp:pi=pi2:=htw.i
  have hoo:os.length=os2.length:=htw.o
  have hp4:0≤pi∧pi≤4:=hk.i4
  have ho4:os.length≤4:=hk.o4
  refine A2 ?_;simp only[go_sem];refine hK2 _ ?_;refine oS fun _ hK6=>?_;refine oS fun _ hK7=>?_;refine oW I0 ?_;simp only[go_sem];repeat(with_reducible refine oA ?_)
  refine hK7 _ ?_;refine A1 ?_;refine A7 (ι:={ i:Nat // i≤Int.toNat pi∧∀i',i' < i→∀o,o < os.length→i9 (M7 (ni,la,lb,lc,ld) (i':Int) (o:Int)) (M7 (ni2,la2,lb2,lc2,ld2) (i':Int) (o:Int))=true }) (fun k=>⟨[zz,zz,.c (.po 132 0),.c (.po 148 0),zz,zz,zz,zz,zz,zz,zz,zz,zz,zz,zz,zz,zz,.c (.sc (.int .i64 (pi))),.c (.sc (.int .i64 (k.1))),zz,zz,zz,zz,zz,zz,zz,zz,zz,zz,zz,zz,zz,zz,zz,zz,zz,zz,zz,zz],[(132,.box [.sc (.int .i64 (pi)),.rd [] 26 ((.row 2 (.int .i64))) (ts),.rd [] 95 ((.prod (.int .i64) (.prod (.int .i64) (.prod (.int .i64) (.row 2 (.int .i64)))))) (ns),.rd [] 2 (.int .i64) (os)]),(148,.box [.sc (.int .i64 (pi2)),.rd [] 26 ((.row 2 (.int .i64))) (ts2),.rd [] 95 ((.prod (.int .i64) (.prod (.int .i64) (.prod (.int .i64) (.row 2 (.int .i64)))))) (ns2),.rd [] 2 (.int .i64) (os2)])]⟩) (fun k=>(Int.toNat pi) - k.1) ⟨0,by simp,fun i' h=>absurd h (Nat.not_lt_zero _)⟩ ?_ ?_
  ·
   refine oK ?_;simp (maxSteps:=2000000)only[go_sem];all_goals(first|rfl|((repeat' refine And.intro ?_ ?_)<;>first|rfl|simp))
  rintro⟨i,hi,ha⟩ K8 hL8
  refine oS fun _ hK9=>?_;refine oW I0 ?_;simp only[go_sem];refine hK9 _ ?_;refine oS fun _ hK10=>?_;refine oC rfl ?_ ?_
  ·
   intro c1;refine A2 ?_;simp only[go_sem];refine hK10 _ ?_;refine oS fun _ hK11=>?_;refine A1 ?_;refine oS fun _ hK12=>?_;refine oW I0 ?_;simp only[go_sem];refine hK12 _ ?_;refine oS fun _ hK13=>?_;refine oW I0 ?_;simp only[go_sem];repeat(with_reducible refine oA ?_)
   refine hK13 _ ?_;refine A1 ?_;refine A7 (ι:={ o:Nat // o≤os.length∧∀o',o' < o→i9 (M7 (ni,la,lb,lc,ld) (i:Int) (o':Int)) (M7 (ni2,la2,lb2,lc2,ld2) (i:Int) (o':Int))=true }) (fun k'=>⟨[zz,zz,.c (.po 132 0),.c (.po 148 0),zz,zz,zz,.c (.sc (.int .i64 (i))),zz,zz,zz,zz,zz,zz,zz,zz,zz,.c (.sc (.int .i64 (pi))),.c (.sc (.int .i64 (i))),zz,zz,zz,zz,.c (.sc (.int .i64 (os.length))),.c (.sc (.int .i64 (k'.1))),zz,zz,zz,zz,zz,zz,zz,zz,zz,zz,zz,zz,zz,zz],[(132,.box [.sc (.int .i64 (pi)),.rd [] 26 ((.row 2 (.int .i64))) (ts),.rd [] 95 ((.prod (.int .i64) (.prod (.int .i64) (.prod (.int .i64) (.row 2 (.int .i64)))))) (ns),.rd [] 2 (.int .i64) (os)]),(148,.box [.sc (.int .i64 (pi2)),.rd [] 26 ((.row 2 (.int .i64))) (ts2),.rd [] 95 ((.prod (.int .i64) (.prod (.int .i64) (.prod (.int .i64) (.row 2 (.int .i64)))))) (ns2),.rd [] 2 (.int .i64) (os2)])]⟩) (fun k'=>os.length - k'.1) ⟨0,by simp,fun o' h=>absurd h (Nat.not_lt_zero _)⟩ ?_ ?_
   ·
    refine oK ?_;simp (maxSteps:=2000000)only[go_sem];all_goals(first|rfl|((repeat' refine And.intro ?_ ?_)<;>first|rfl|simp))
   rintro⟨o,ho,hin⟩ K14 hL14
   refine oS fun _ hK15=>?_;refine oW I0 ?_;simp only[go_sem];refine hK15 _ ?_;refine oS fun _ hK16=>?_;refine oC rfl ?_ ?_
   ·
    intro c2;have hta0:=B9M (x:=(ni,la,lb,lc,ld)) ha1 (i:Int) (o:Int)
    have htb0:=B9M (x:=(ni2,la2,lb2,lc2,ld2)) ha2 (i:Int) (o:Int)
    rcases hta:M7 (ni,la,lb,lc,ld) (i:Int) (o:Int) with⟨ua,ub⟩
    rcases htb:M7 (ni2,la2,lb2,lc2,ld2) (i:Int) (o:Int) with⟨va,vb⟩
    rw[hta] at hta0;rw[htb] at htb0;have hTT:trB (ua,ub)=true∧trB (va,vb)=true:=⟨hta0,htb0⟩
    have hT1:linOkP (pi,ts,ns,os)∧(0≤(i:Int)∧(i:Int) < pi)∧(0≤(o:Int)∧(o:Int) < os.length):=⟨hk,⟨by omega,by omega⟩,by omega,by omega⟩
    have hT2:linOkP (pi2,ts2,ns2,os2)∧(0≤(i:Int)∧(i:Int) < pi2)∧(0≤(o:Int)∧(o:Int) < os2.length):=⟨hk2,⟨by omega,by omega⟩,by omega,by omega⟩
    refine A2 ?_;simp only[go_sem];refine hK16 _ ?_;refine oS fun _ hK17=>?_;refine A1 ?_;refine oS fun _ hK18=>?_;refine oW I0 ?_;simp only[go_sem];refine hK18 _ ?_;refine oS fun _ hK19=>?_
    refine oR I0
      [[],[],[],[0,1,2],[],[],[],[0,1,2,3,4,5,6],[0,1,2,3,4,5,6,7],[0,1,2,3,4,5,6,7,8]]
      [[],[],[],[],[580,581,582,583,584,585,586,587,588,589,590,591,592,593,594,595],[580,581,582,583,584,585,586,587,588,589,590,591,592,593,594,595],[580,581,582,583,584,585,586,587,588,589,590,591,592,593,594,595],[],[],[]]
      [[],[],[],[580,581,582,583,584,585,586,587,588,589,590,591,592,593,594,595],[],[],[],[],[],[]] (by kernel_rfl) (by kernel_rfl) (A9 (acc:=[]) ?_)
    simp (maxSteps:=2000000)only[List.nodup_cons,List.nodup_nil,List.not_mem_nil,not_false_eq_true,hX,hY,hta,htb,go_sem];repeat(with_reducible first|refine oD ?_|refine And.intro (by first|exact hT1|exact hT2|exact hTT) ?_)
    refine hK19 _ ?_;refine oC rfl ?_ ?_
    ·
     intro c3;refine oS fun _ hK20=>?_;refine oW I0 ?_;simp only[go_sem];refine hK20 _ ?_;refine A0 ?_;simp only[hres,go_sem]
     first
      | exact oF
      | refine ⟨?_, oF⟩
        have hef:i9 (M7 (ni,la,lb,lc,ld) (i:Int) (o:Int)) (M7 (ni2,la2,lb2,lc2,ld2) (i:Int) (o:Int))=false:=by rw[hta,htb];first|assumption|(clear hK1 hK2 hK3 hK4 hK6 hK7 hL8 hK9 hK10 hK11 hK12 hK13 hL14 hK15 hK16 hK17 hK18 hK19 hK20;simp_all;done)
        have hq:=C4N hl0 hX hY (i:=i) (o:=o) (by show i < (Int.toNat pi);omega) (by show o < os.length;omega) hef
        first|(rw[hq];exact⟨rfl,rfl⟩)|(rw[hq];done)
    intro c3;have het:i9 (M7 (ni,la,lb,lc,ld) (i:Int) (o:Int)) (M7 (ni2,la2,lb2,lc2,ld2) (i:Int) (o:Int))=true:=by rw[hta,htb];first|assumption|(clear hK1 hK2 hK3 hK4 hK6 hK7 hL8 hK9 hK10 hK11 hK12 hK13 hL14 hK15 hK16 hK17 hK18 hK19;simp_all;done)
    refine A2 ?_;simp only[go_sem];refine hK17 _ ?_;refine oW I0 ?_;simp only[go_sem]
    refine hL14 ⟨o+1,by omega,fun o' h=>by
      rcases Nat.lt_succ_iff_lt_or_eq.1 h with h|h
      · exact hin o' h
      · subst h;exact het⟩ _ (oK ?_) ?_
    ·
     simp (maxSteps:=2000000)only[go_sem];all_goals((repeat' refine And.intro ?_ ?_)<;>first|rfl|exact wk (by omega)|(congr 1;done))
    ·
     first|(simp only[];omega)|omega|(simp;omega)
   intro c2;refine B6 ?_;simp only[go_sem];refine hK11 _ ?_;refine oW I0 ?_;simp only[go_sem]
   refine hL8 ⟨i+1,by omega,fun j h o' ho'=>by
     rcases Nat.lt_succ_iff_lt_or_eq.1 h with h|h
     · exact ha j h o' ho'
     · subst h;exact hin o' (by omega)⟩ _ (oK ?_) ?_
   ·
    simp (maxSteps:=2000000)only[go_sem];all_goals((repeat' refine And.intro ?_ ?_)<;>first|rfl|exact wk (by omega)|(congr 1;done))
   ·
    first|(simp only[];omega)|omega|(simp;omega)
  intro c1;refine B6 ?_;simp only[go_sem];refine hK6 _ ?_;refine oS fun _ hK21=>?_;refine oW I0 ?_;simp only[go_sem];refine hK21 _ ?_;refine A0 ?_;simp only[hres,go_sem]
  first
   | exact oF
   | refine ⟨?_, oF⟩
     have hq:=B5w hl0 hX hY (fun j h=>ha j (by have h:j < (Int.toNat pi):=h;omega))
     first|(rw[hq];exact⟨rfl,rfl⟩)|(rw[hq];done)
def A42:E4:=fun f=>if f=6 then some (.p x5) else A8q f
theorem A9c:B4 Tryz.prog A42:=E3 B46 (B0 Tryz.func6 rfl (by decide)) I0
attribute [go_sem] A42 x5
end Go.Proofs.YtgaogcnfijbahaaGreat
