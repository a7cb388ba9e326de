/-
  Texts of this claim, joined (part 42). No condition beyond those of the theorems.
-/
import Derived.Test.YtgaogcnfijbahaaGreatQ06
namespace Go.Proofs.YtgaogcnfijbahaaGreat
open Go.RowKit
set_option linter.unusedSimpArgs false
set_option linter.unusedVariables false
set_option maxRecDepth 100000
set_option maxHeartbeats 8000000
def A3A:Con:=⟨[.val ((.prod (.int .i64) (.prod (.int .i64) (.prod (.int .i64) (.row 2 (.int .i64)))))),.val (.int .i64)],[⟨.bool,true⟩],fun _=>True,fun x=>M6 x.1 x.2.1⟩
theorem B9o:C9 Tryz.prog 123 A3A:=by
  refine A4 Tryz.func123 rfl ?_
  have hres:Tryz.f123.results.toList=[.tmp 4]:=rfl
  rintro⟨⟨(kd:Int),(a:Int),(bb:Int),(fr:List Int)⟩,(tb:Int),_⟩ hc hL
  simp only[A3A,go_sem] at hL
  simp only[A3A,St.init,St.initG,Tryz.ntmps123,go_sem] 
  refine oS fun _ hK1=>?_;refine oW D3 ?_;simp only[go_sem];refine hK1 _ ?_;refine oS fun _ hK2=>?_;refine oS fun _ hK3=>?_;refine oW D3 ?_;simp only[go_sem];repeat(with_reducible refine oA ?_)
  refine hK3 _ ?_;refine oC rfl ?_ ?_
  ·
   intro c0;refine oS fun _ hK4=>?_;refine oW D3 ?_;simp only[go_sem];refine hK4 _ ?_;refine A0 ?_;simp only[hres,go_sem];first|exact oF|(refine⟨?_,oF⟩;clear hK1 hK2 hK3 hK4;simp_all [M6])
  intro c0;refine A2 ?_;simp only[go_sem];refine hK2 _ ?_;refine oS fun _ hK5=>?_;have hk:=B1I c0
  have hk1:=hk.1
  have hkl:A5Y.length=17:=rfl
  have hw:IntKind.i64.wrap (kd - 1)=kd - 1:=F3 (by omega)
  refine oR D3
    [[],[],[1],[1,2],[0,1,2,3],[0,1,2,3,4],[],[0,1,2,3,4,5,6]]
    [[180],[180,292,293,294,295,296,297,298,299,300,301,302,303,304,305,306,307],[180,292,293,294,295,296,297,298,299,300,301,302,303,304,305,306,307],[180,292,293,294,295,296,297,298,299,300,301,302,303,304,305,306,307],[180],[180],[292,293,294,295,296,297,298,299,300,301,302,303,304,305,306,307],[]]
    [[292,293,294,295,296,297,298,299,300,301,302,303,304,305,306,307],[],[],[],[],[],[180],[]] (by kernel_rfl) (by kernel_rfl) (A9 (acc:=[]) ?_)
  simp (maxSteps:=2000000)only[hw,hk1,go_sem];repeat(with_reducible refine oD ?_)
  refine hK5 _ ?_;refine b8 (M6 (kd,a,bb,fr) tb=(fr.all (fun f=>J3 f 0 23) && decide ((fr.length:Int)=(kT kd).1) && (!decide (kd=13) || decide (a < tb)))) ⟨[zz,.c (.sc (.int .i64 (tb))),.c (.po 132 0),zz,zz,.c (.po 180 0),zz,zz,zz,zz,zz,zz,zz,zz,zz,zz,zz,zz,zz,zz,zz,zz,zz,zz,zz,zz,zz,zz,zz,zz,zz,zz,zz,zz,zz,zz,zz,zz,zz,zz,zz,zz,zz,zz,zz,zz,zz,zz,zz,zz,zz,zz,zz,zz,zz,zz,zz,zz,zz,zz,zz,zz,zz,zz,zz,zz,zz,zz,zz,zz,zz,zz,zz,zz,zz,zz,zz,zz,zz,zz,zz,zz,zz,zz,zz,zz,zz,zz],[(132,.box [.sc (.int .i64 (kd)),.sc (.int .i64 (a)),.sc (.int .i64 (bb)),.rd [] 2 (.int .i64) (fr)]),(180,.box [.sc (.string (A5Y.getD (kd - 1).toNat (ByteArray.empty,0,0,0,false,false)).1),.sc (.int .i64 ((kT kd).1)),.sc (.int .i64 ((kT kd).2.1)),.sc (.int .i64 ((kT kd).2.2.1)),.sc (.bool (kT kd).2.2.2.1),.sc (.bool (kT kd).2.2.2.2)])]⟩ ?_ fun _ hK6=>?_
  ·
   intro hN;refine oS fun _ hK7=>?_;refine oS fun _ hK8=>?_;refine oW D3 ?_;simp only[go_sem];repeat(with_reducible refine oA ?_)
   refine hK8 _ ?_;refine A1 ?_;refine A7 (ι:={ k:Nat // k≤fr.length∧(fr.take k).all (fun f=>J3 f 0 23)=true }) (fun k=>⟨[zz,.c (.sc (.int .i64 (tb))),.c (.po 132 0),zz,zz,.c (.po 180 0),zz,zz,zz,zz,zz,zz,zz,zz,zz,zz,zz,zz,zz,zz,zz,zz,zz,zz,zz,zz,zz,zz,zz,zz,zz,zz,zz,zz,zz,zz,zz,zz,zz,zz,zz,zz,zz,zz,zz,zz,zz,zz,zz,zz,zz,zz,zz,zz,zz,zz,zz,zz,zz,zz,zz,.c (.rd [] 2 (.int .i64) (fr)),.c (.sc (.int .i64 (fr.length))),.c (.sc (.int .i64 (k.1))),zz,zz,zz,zz,zz,zz,zz,zz,zz,zz,zz,zz,zz,zz,zz,zz,zz,zz,zz,zz,zz,zz,zz,zz],[(132,.box [.sc (.int .i64 (kd)),.sc (.int .i64 (a)),.sc (.int .i64 (bb)),.rd [] 2 (.int .i64) (fr)]),(180,.box [.sc (.string (A5Y.getD (kd - 1).toNat (ByteArray.empty,0,0,0,false,false)).1),.sc (.int .i64 ((kT kd).1)),.sc (.int .i64 ((kT kd).2.1)),.sc (.int .i64 ((kT kd).2.2.1)),.sc (.bool (kT kd).2.2.2.1),.sc (.bool (kT kd).2.2.2.2)])]⟩) (fun k=>fr.length - k.1) ⟨0,by simp⟩ ?_ ?_
   ·
    refine oK ?_;simp (maxSteps:=2000000)only[go_sem];all_goals(first|rfl|((repeat' refine And.intro ?_ ?_)<;>first|rfl|simp))
   rintro⟨k,hk,hp⟩ K9 hL9
   refine oS fun _ hK10=>?_;refine oW D3 ?_;simp only[go_sem];refine hK10 _ ?_;refine oS fun _ hK11=>?_;refine oC rfl ?_ ?_
   ·
    intro c2;refine A2 ?_;simp only[go_sem];refine hK11 _ ?_;refine oS fun _ hK12=>?_;refine A1 ?_;refine oS fun _ hK13=>?_;refine oW D3 ?_;simp only[go_sem];repeat(with_reducible refine oA ?_)
    refine hK13 _ ?_;refine oS fun _ hK14=>?_;refine oW D3 ?_;simp only[go_sem];repeat(with_reducible refine oA ?_)
    refine hK14 _ ?_;refine oC rfl ?_ ?_
    ·
     intro c3;refine oS fun _ hK15=>?_;refine oW D3 ?_;simp only[go_sem];refine hK15 _ ?_;refine A0 ?_;simp only[hres,go_sem];first|exact oF|(refine⟨?_,oF⟩;rw[hN,N5 (k:=k) (d:=0) (by omega) (by first|assumption|(clear hK1 hK2 hK3 hK5 hK7 hK8 hL9 hK10 hK11 hK12 hK13 hK14 hK15;simp_all))];rfl)
    intro c3;refine A2 ?_;simp only[go_sem];refine hK12 _ ?_;refine oW D3 ?_;simp only[go_sem];refine hL9 ⟨k+1,by omega,L6 (d:=0) (by omega) hp (by first|assumption|(clear hK1 hK2 hK3 hK5 hK7 hK8 hL9 hK10 hK11 hK12 hK13 hK14;simp_all))⟩ _ (oK ?_) ?_
    ·
     simp (maxSteps:=2000000)only[go_sem];first|rfl|exact wk (by omega)
    ·
     first|(simp only[];omega)|omega|(simp;omega)
   intro c2;refine B6 ?_;simp only[go_sem];refine hK7 _ ?_;refine oS fun _ hK16=>?_
   refine oR D3
     [[],[0],[0,1],[],[3],[0,1,2,3,4],[0,1,2,3,4,5],[0,1,2,3,4,5,6],[0,1,2,3,4,5,6,7],[0,1,2,3,4,5,6,7,8],[0,1,2,3,4,5,6,7,8,9],[0,1,2,3,4,5,6,7,8,9,10],[0,1,2,3,4,5,6,7,8,9,10,11],[0,1,2,3,4,5,6,7,8,9,10],[0,1,2,3,4,5,6,7,8,9,10,11,12,13],[0,1,2,3,4,5,6,7,8,9,10,11,12,13,14],[0,1,2,3,4,5,6,7,8,9,10,11,12,13,14,15],[0,1,2,3,4,5,6,7,8,9,10,11,12,13,14,15,16]]
     [[],[],[],[],[],[],[],[],[],[],[],[],[],[],[],[],[],[]]
     [[],[],[],[],[],[],[],[],[],[],[],[],[],[],[],[],[],[]] (by kernel_rfl) (by kernel_rfl) (A9 (acc:=[]) ?_)
   simp (maxSteps:=2000000)only[go_sem];repeat' (with_reducible first|refine oD ?_|refine oT (fun g12=>?_) (fun g12=>?_)|refine oE (fun g12=>?_) (fun g12=>?_))
   all_goals
    refine hK16 _ ?_;refine A0 ?_;simp only[hres,go_sem]
    first
     | exact oF
     | refine ⟨?_, oF⟩
       have ha:=L3 hp (by omega)
       rw[hN,ha];clear hK1 hK2 hK3 hK5 hK7 hK8 hL9 hK10 hK11 hK16;simp_all
  refine oS fun _ hK17=>?_;refine oW D3 ?_;simp (maxSteps:=2000000)only[go_sem];repeat' (with_reducible first|refine oA ?_|refine oT (fun g4=>?_) (fun g4=>?_)|refine oE (fun g4=>?_) (fun g4=>?_))
  all_goals
   refine hK17 _ ?_;refine E2 rfl ?_ ?_
   ·
    intro c1;try simp only[zA,zB,zC,zD,zE,zF,zG,zH,zI] at c1
    all_goals
     refine oS fun _ hK18=>?_;refine oW D3 ?_;simp only[go_sem];refine hK18 _ ?_;refine A0 ?_;simp only[hres,go_sem];first|exact oF|(refine⟨?_,oF⟩;clear hK1 hK2 hK3 hK5 hK6 hK17 hK18;simp_all [M6,-Int.not_le])
   ·
    intro c1;try simp only[zA,zB,zC,zD,zE,zF,zG,zH,zI] at c1
    all_goals
     refine A2 ?_;simp only[go_sem];refine hK6 _ (oK ?_) ?_
     ·
      simp (maxSteps:=2000000)only[go_sem];all_goals(first|rfl|((repeat' refine And.intro ?_ ?_)<;>first|rfl|exact wk (by omega)|simp))
     ·
      clear hK1 hK2 hK3 hK5 hK6 hK17;simp_all [M6,-Int.not_le]
def B0Z:E4:=fun f=>if f=123 then some (.p A3A) else e9 f
theorem B6H:B4 Tryz.prog B0Z:=E3 B9o (B0 Tryz.func123 rfl (by decide)) D3
attribute [go_sem] B0Z A3A
set_option maxRecDepth 100000
set_option maxHeartbeats 1000000
def t5:Con:=⟨[.val ((.row 26 (.row 2 (.int .i64))))],[⟨.bool,true⟩],fun _=>True,fun x=>A05 x.1⟩
theorem B2l:C9 Tryz.prog 121 t5:=by
  refine A4 Tryz.func121 rfl ?_
  have hres:Tryz.f121.results.toList=[.tmp 2]:=rfl
  rintro⟨(xs:List (List Int)),_⟩ hc hL
  simp only[t5,go_sem] at hL
  obtain⟨lxs,lxs2⟩:=hL;simp only[t5,St.init,St.initG,Tryz.ntmps121,go_sem] 
  refine oS fun _ hK1=>?_;refine oW D3 ?_;simp only[go_sem];refine hK1 _ ?_;refine oS fun _ hK2=>?_;refine oS fun _ hK3=>?_;refine oW D3 ?_;simp only[go_sem];refine hK3 _ ?_;refine A1 ?_;refine A7 (ι:={ k:Nat // k≤xs.length∧(xs.take k).all A6z=true }) (fun k=>⟨[.c (.rd [] 26 (.row 2 (.int .i64)) (xs)),zz,zz,zz,zz,zz,.c (.rd [] 26 (.row 2 (.int .i64)) (xs)),.c (.sc (.int .i64 (xs.length))),.c (.sc (.int .i64 (k.1))),zz,zz,zz,zz,zz,zz,zz,zz,zz,zz,zz,zz,zz,zz,zz,zz,zz,zz,zz,zz,zz,zz,zz,zz,zz,zz,zz,zz],[]⟩) (fun k=>xs.length - k.1) ⟨0,by simp⟩ ?_ ?_
  ·
   refine oK ?_;simp (maxSteps:=2000000)only[go_sem];all_goals(first|rfl|((repeat' refine And.intro ?_ ?_)<;>first|rfl|simp))
  rintro⟨k,hk,hp⟩ K4 hL4
  refine oS fun _ hK5=>?_;refine oW D3 ?_;simp only[go_sem];refine hK5 _ ?_;refine oS fun _ hK6=>?_;refine oC rfl ?_ ?_
  ·
   intro c0;refine A2 ?_;simp only[go_sem];refine hK6 _ ?_;refine oS fun _ hK7=>?_;refine A1 ?_;refine oS fun _ hK8=>?_;refine oW D3 ?_;simp only[go_sem];repeat(with_reducible refine oA ?_)
   refine hK8 _ ?_;refine oS fun _ hK9=>?_;refine oW D3 ?_;simp only[go_sem];refine hK9 _ ?_;refine oS fun _ hK10=>?_;refine oW D3 ?_;simp (maxSteps:=2000000)only[go_sem];repeat' (with_reducible first|refine oA ?_|refine oT (fun g5=>?_) (fun g5=>?_)|refine oE (fun g5=>?_) (fun g5=>?_))
   all_goals
    refine hK10 _ ?_;refine E2 rfl ?_ ?_
    ·
     intro c1;try simp only[zA,zB,zC,zD,zE,zF,zG,zH,zI] at c1
     all_goals
      refine oS fun _ hK11=>?_;refine oW D3 ?_;simp only[go_sem];refine hK11 _ ?_;refine A0 ?_;simp only[hres,go_sem]
      first
       | exact oF
       | refine ⟨?_, oF⟩
         have hq:A6z (xs.getD k [])=false:=by clear hK1 hK2 hK3 hL4 hK5 hK6 hK7 hK8 hK9 hK10 hK11;simp_all [A6z]<;>omega
         rw[A05,N5 (k:=k) (d:=[]) (by omega) hq];rfl
    ·
     intro c1;try simp only[zA,zB,zC,zD,zE,zF,zG,zH,zI] at c1
     all_goals
      have hq:A6z (xs.getD k [])=true:=by clear hK1 hK2 hK3 hL4 hK5 hK6 hK7 hK8 hK9 hK10;simp_all [A6z]<;>omega
      refine A2 ?_;simp only[go_sem];refine hK7 _ ?_;refine oW D3 ?_;simp only[go_sem];refine hL4 ⟨k+1,by omega,L6 (d:=[]) (by omega) hp (by first|assumption|(clear hK1 hK2 hK3 hL4 hK5 hK6 hK7 hK8 hK9 hK10;simp_all))⟩ _ (oK ?_) ?_
      ·
       simp (maxSteps:=2000000)only[go_sem];first|rfl|exact wk (by omega)
      ·
       first|(simp only[];omega)|omega|(simp;omega)
  intro c0;refine B6 ?_;simp only[go_sem];refine hK2 _ ?_;refine oS fun _ hK12=>?_;refine oW D3 ?_;simp only[go_sem];refine hK12 _ ?_;refine A0 ?_;simp only[hres,go_sem];first|exact oF|(refine⟨?_,oF⟩;rw[A05,L3 hp (by omega),Bool.true_and];exact decide_eq_decide.2 (by omega))
def A40:E4:=fun f=>if f=121 then some (.p t5) else e9 f
theorem M0:B4 Tryz.prog A40:=E3 B2l (B0 Tryz.func121 rfl (by decide)) D3
attribute [go_sem] A40 t5
def j7:Con:=⟨[.val ((.row 2 (.int .i64))),.val (.int .i64)],[⟨.bool,true⟩],fun x=>J3 x.2.1 (-9223372036854775807) 9223372036854775807=true,fun x=>N9 x.2.1 x.1⟩
theorem B0z:C9 Tryz.prog 122 j7:=by
  refine A4 Tryz.func122 rfl ?_
  have hres:Tryz.f122.results.toList=[.tmp 4]:=rfl
  rintro⟨(xs:List Int),(m:Int),_⟩ hc hL
  simp only[j7,go_sem] at hL
  simp only[j7,St.init,St.initG,Tryz.ntmps122,go_sem] 
  obtain⟨hm1,hm2⟩:=C1.1 (show J3 m _ _=true from hc)
  have hw:IntKind.i64.wrap (m - 1)=m - 1:=F3 (by omega)
  refine oS fun _ hK1=>?_;refine oW M0 ?_;simp only[go_sem];refine hK1 _ ?_;refine oS fun _ hK2=>?_;refine oS fun _ hK3=>?_;refine oW M0 ?_;simp only[go_sem];refine hK3 _ ?_;refine A1 ?_;refine A7 (ι:={ k:Nat // k≤xs.length∧(xs.take k).all (fun i=>J3 i 0 (m - 1))=true }) (fun k=>⟨[zz,.c (.sc (.int .i64 (m))),zz,zz,zz,zz,zz,.c (.rd [] 2 (.int .i64) (xs)),.c (.sc (.int .i64 (xs.length))),.c (.sc (.int .i64 (k.1))),zz,zz,zz,zz,zz,zz,zz,zz,zz],[]⟩) (fun k=>xs.length - k.1) ⟨0,by simp⟩ ?_ ?_
  ·
   refine oK ?_;simp (maxSteps:=2000000)only[go_sem];all_goals(first|rfl|((repeat' refine And.intro ?_ ?_)<;>first|rfl|simp))
  rintro⟨k,hk,hp⟩ K4 hL4
  refine oS fun _ hK5=>?_;refine oW M0 ?_;simp only[go_sem];refine hK5 _ ?_;refine oS fun _ hK6=>?_;refine oC rfl ?_ ?_
  ·
   intro c0;refine A2 ?_;simp only[go_sem];refine hK6 _ ?_;refine oS fun _ hK7=>?_;refine A1 ?_;refine oS fun _ hK8=>?_;refine oW M0 ?_;simp only[go_sem];repeat(with_reducible refine oA ?_)
   refine hK8 _ ?_;refine oS fun _ hK9=>?_;refine oW M0 ?_;simp (maxSteps:=2000000)only[hw,go_sem];repeat(with_reducible refine oA ?_)
   refine hK9 _ ?_;refine oC rfl ?_ ?_
   ·
    intro c1;refine oS fun _ hK10=>?_;refine oW M0 ?_;simp only[go_sem];refine hK10 _ ?_;refine A0 ?_;simp only[hres,go_sem];first|exact oF|(refine⟨?_,oF⟩;exact(N5 (k:=k) (d:=0) (by omega) (by first|assumption|(clear hp;clear hK1 hK2 hK3 hL4 hK5 hK6 hK7 hK8 hK9 hK10;simp_all))).symm)
   intro c1;refine A2 ?_;simp only[go_sem];refine hK7 _ ?_;refine oW M0 ?_;simp only[go_sem];refine hL4 ⟨k+1,by omega,L6 (d:=0) (by omega) hp (by first|assumption|(clear hK1 hK2 hK3 hL4 hK5 hK6 hK7 hK8 hK9;simp_all))⟩ _ (oK ?_) ?_
   ·
    simp (maxSteps:=2000000)only[go_sem];first|rfl|exact wk (by omega)
   ·
    first|(simp only[];omega)|omega|(simp;omega)
  intro c0;refine B6 ?_;simp only[go_sem];refine hK2 _ ?_;refine oS fun _ hK11=>?_;refine oW M0 ?_;simp only[go_sem];refine hK11 _ ?_;refine A0 ?_;simp only[hres,go_sem];first|exact oF|(refine⟨?_,oF⟩;exact(L3 hp (by omega)).symm)
def A2h:E4:=fun f=>if f=122 then some (.p j7) else A40 f
theorem V8:B4 Tryz.prog A2h:=E3 B0z (B0 Tryz.func122 rfl (by decide)) M0
attribute [go_sem] A2h j7
def A1A:Con:=⟨[.val ((.prod (.int .i64) (.prod (.int .i64) (.prod (.int .i64) (.row 2 (.int .i64))))))],[⟨(.row 2 (.int .i64)),false⟩],fun _=>True,fun x=>J5 x.1⟩
theorem B4v:C9 Tryz.prog 125 A1A:=by
  refine A4 Tryz.func125 rfl ?_
  have hres:Tryz.f125.results.toList=[.tmp 2]:=rfl
  rintro⟨⟨(kd:Int),(a:Int),(bb:Int),(fr:List Int)⟩,_⟩ hc hL
  simp only[A1A,go_sem] at hL
  simp only[A1A,St.init,St.initG,Tryz.ntmps125,go_sem] 
  refine oS fun _ hK1=>?_;refine oW V8 ?_;simp only[go_sem];refine hK1 _ ?_;refine oS fun _ hK2=>?_;refine oS fun _ hK3=>?_;refine oW V8 ?_;simp only[go_sem];repeat(with_reducible refine oA ?_)
  refine hK3 _ ?_;refine oC rfl ?_ ?_
  ·
   intro c0;refine oS fun _ hK4=>?_;refine oW V8 ?_;simp only[go_sem];refine hK4 _ ?_;refine A0 ?_;simp only[hres,go_sem];first|exact oF|(refine⟨?_,oF⟩;clear hK1 hK2 hK3 hK4;simp_all [J5])
  intro c0;refine A2 ?_;simp only[go_sem];refine hK2 _ ?_;refine oS fun _ hK5=>?_;refine oW V8 ?_;simp only[go_sem];repeat(with_reducible refine oA ?_)
  refine hK5 _ ?_;refine A0 ?_;simp only[hres,go_sem];first|exact oF|(refine⟨?_,oF⟩;clear hK1 hK2 hK3 hK5;simp_all [J5])
def A2d:E4:=fun f=>if f=125 then some (.p A1A) else A2h f
theorem E0:B4 Tryz.prog A2d:=E3 B4v (B0 Tryz.func125 rfl (by decide)) V8
attribute [go_sem] A2d A1A
end Go.Proofs.YtgaogcnfijbahaaGreat
