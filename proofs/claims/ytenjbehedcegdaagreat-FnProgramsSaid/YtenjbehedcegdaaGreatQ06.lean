/-
  Texts of this claim, joined (part 6). No condition beyond those of the theorems.
-/
import Derived.Test.YtenjbehedcegdaaGreatQ05
namespace Go.Proofs.YtenjbehedcegdaaGreat
open Go.RowKit
set_option linter.unusedSimpArgs false
set_option linter.unusedVariables false
set_option maxRecDepth 100000
set_option maxHeartbeats 8000000
def A1d:Con:=⟨[.val ((.prod (.int .i64) (.prod (.int .i64) (.prod (.int .i64) (.row 2 (.int .i64)))))),.val (.int .i64)],[⟨.bool,true⟩],fun _=>True,fun x=>O7 x.1 x.2.1⟩
theorem B4c:C8 Tryz.prog 77 A1d:=by
  refine A4 Tryz.func77 rfl ?_
  have hres:Tryz.f77.results.toList=[.tmp 4]:=rfl
  rintro⟨⟨(kd:Int),(a:Int),(bb:Int),(fr:List Int)⟩,(tb:Int),_⟩ hc hL
  simp only[A1d,go_sem] at hL
  simp only[A1d,St.init,St.initG,Tryz.ntmps77,go_sem] 
  refine oS fun _ hK1=>?_;refine oW C4 ?_;simp only[go_sem];refine hK1 _ ?_;refine oS fun _ hK2=>?_;refine oS fun _ hK3=>?_;refine oW C4 ?_;simp only[go_sem];repeat(with_reducible refine oA ?_)
  refine hK3 _ ?_;refine oC rfl ?_ ?_
  ·
   intro c0;refine oS fun _ hK4=>?_;refine oW C4 ?_;simp only[go_sem];refine hK4 _ ?_;refine A0 ?_;simp only[hres,go_sem];first|exact oF|(refine⟨?_,oF⟩;clear hK1 hK2 hK3 hK4;simp_all [O7])
  intro c0;refine A2 ?_;simp only[go_sem];refine hK2 _ ?_;refine oS fun _ hK5=>?_;have hk:=B4U c0
  have hk1:=hk.1
  have hkl:A4D.length=17:=rfl
  have hw:IntKind.i64.wrap (kd - 1)=kd - 1:=H4 (by omega)
  refine oR C4
    [[],[],[1],[1,2],[0,1,2,3],[0,1,2,3,4],[],[0,1,2,3,4,5,6]]
    [[180],[180,292,293,294,295,296,297,298,299,300,301,302,303,304,305,306,307],[180,292,293,294,295,296,297,298,299,300,301,302,303,304,305,306,307],[180,292,293,294,295,296,297,298,299,300,301,302,303,304,305,306,307],[180],[180],[292,293,294,295,296,297,298,299,300,301,302,303,304,305,306,307],[]]
    [[292,293,294,295,296,297,298,299,300,301,302,303,304,305,306,307],[],[],[],[],[],[180],[]] (by kernel_rfl) (by kernel_rfl) (A7 (acc:=[]) ?_)
  simp (maxSteps:=2000000)only[hw,hk1,go_sem];repeat(with_reducible refine oD ?_)
  refine hK5 _ ?_;refine W3 (O7 (kd,a,bb,fr) tb=(fr.all (fun f=>I6 f 0 23) && decide ((fr.length:Int)=(kT kd).1) && (!decide (kd=13) || decide (a < tb)))) ⟨[zz,.c (.sc (.int .i64 (tb))),.c (.po 132 0),zz,zz,.c (.po 180 0),zz,zz,zz,zz,zz,zz,zz,zz,zz,zz,zz,zz,zz,zz,zz,zz,zz,zz,zz,zz,zz,zz,zz,zz,zz,zz,zz,zz,zz,zz,zz,zz,zz,zz,zz,zz,zz,zz,zz,zz,zz,zz,zz,zz,zz,zz,zz,zz,zz,zz,zz,zz,zz,zz,zz,zz,zz,zz,zz,zz,zz,zz,zz,zz,zz,zz,zz,zz,zz,zz,zz,zz,zz,zz,zz,zz,zz,zz,zz,zz,zz,zz],[(132,.box [.sc (.int .i64 (kd)),.sc (.int .i64 (a)),.sc (.int .i64 (bb)),.rd [] 2 (.int .i64) (fr)]),(180,.box [.sc (.string (A4D.getD (kd - 1).toNat (ByteArray.empty,0,0,0,false,false)).1),.sc (.int .i64 ((kT kd).1)),.sc (.int .i64 ((kT kd).2.1)),.sc (.int .i64 ((kT kd).2.2.1)),.sc (.bool (kT kd).2.2.2.1),.sc (.bool (kT kd).2.2.2.2)])]⟩ ?_ fun _ hK6=>?_
  ·
   intro hN;refine oS fun _ hK7=>?_;refine oS fun _ hK8=>?_;refine oW C4 ?_;simp only[go_sem];repeat(with_reducible refine oA ?_)
   refine hK8 _ ?_;refine A3 ?_;refine A8 (ι:={ k:Nat // k≤fr.length∧(fr.take k).all (fun f=>I6 f 0 23)=true }) (fun k=>⟨[zz,.c (.sc (.int .i64 (tb))),.c (.po 132 0),zz,zz,.c (.po 180 0),zz,zz,zz,zz,zz,zz,zz,zz,zz,zz,zz,zz,zz,zz,zz,zz,zz,zz,zz,zz,zz,zz,zz,zz,zz,zz,zz,zz,zz,zz,zz,zz,zz,zz,zz,zz,zz,zz,zz,zz,zz,zz,zz,zz,zz,zz,zz,zz,zz,zz,zz,zz,zz,zz,zz,.c (.rd [] 2 (.int .i64) (fr)),.c (.sc (.int .i64 (fr.length))),.c (.sc (.int .i64 (k.1))),zz,zz,zz,zz,zz,zz,zz,zz,zz,zz,zz,zz,zz,zz,zz,zz,zz,zz,zz,zz,zz,zz,zz,zz],[(132,.box [.sc (.int .i64 (kd)),.sc (.int .i64 (a)),.sc (.int .i64 (bb)),.rd [] 2 (.int .i64) (fr)]),(180,.box [.sc (.string (A4D.getD (kd - 1).toNat (ByteArray.empty,0,0,0,false,false)).1),.sc (.int .i64 ((kT kd).1)),.sc (.int .i64 ((kT kd).2.1)),.sc (.int .i64 ((kT kd).2.2.1)),.sc (.bool (kT kd).2.2.2.1),.sc (.bool (kT kd).2.2.2.2)])]⟩) (fun k=>fr.length - k.1) ⟨0,by simp⟩ ?_ ?_
   ·
    refine oK ?_;simp (maxSteps:=2000000)only[go_sem];all_goals(first|rfl|((repeat' refine And.intro ?_ ?_)<;>first|rfl|simp))
   rintro⟨k,hk,hp⟩ K9 hL9
   refine oS fun _ hK10=>?_;refine oW C4 ?_;simp only[go_sem];refine hK10 _ ?_;refine oS fun _ hK11=>?_;refine oC rfl ?_ ?_
   ·
    intro c2;refine A2 ?_;simp only[go_sem];refine hK11 _ ?_;refine oS fun _ hK12=>?_;refine A3 ?_;refine oS fun _ hK13=>?_;refine oW C4 ?_;simp only[go_sem];repeat(with_reducible refine oA ?_)
    refine hK13 _ ?_;refine oS fun _ hK14=>?_;refine oW C4 ?_;simp only[go_sem];repeat(with_reducible refine oA ?_)
    refine hK14 _ ?_;refine oC rfl ?_ ?_
    ·
     intro c3;refine oS fun _ hK15=>?_;refine oW C4 ?_;simp only[go_sem];refine hK15 _ ?_;refine A0 ?_;simp only[hres,go_sem];first|exact oF|(refine⟨?_,oF⟩;rw[hN,M2 (k:=k) (d:=0) (by omega) (by first|assumption|(clear hK1 hK2 hK3 hK5 hK7 hK8 hL9 hK10 hK11 hK12 hK13 hK14 hK15;simp_all))];rfl)
    intro c3;refine A2 ?_;simp only[go_sem];refine hK12 _ ?_;refine oW C4 ?_;simp only[go_sem];refine hL9 ⟨k+1,by omega,J6 (d:=0) (by omega) hp (by first|assumption|(clear hK1 hK2 hK3 hK5 hK7 hK8 hL9 hK10 hK11 hK12 hK13 hK14;simp_all))⟩ _ (oK ?_) ?_
    ·
     simp (maxSteps:=2000000)only[go_sem];first|rfl|exact wk (by omega)
    ·
     first|(simp only[];omega)|omega|(simp;omega)
   intro c2;refine B6 ?_;simp only[go_sem];refine hK7 _ ?_;refine oS fun _ hK16=>?_
   refine oR C4
     [[],[0],[0,1],[],[3],[0,1,2,3,4],[0,1,2,3,4,5],[0,1,2,3,4,5,6],[0,1,2,3,4,5,6,7],[0,1,2,3,4,5,6,7,8],[0,1,2,3,4,5,6,7,8,9],[0,1,2,3,4,5,6,7,8,9,10],[0,1,2,3,4,5,6,7,8,9,10,11],[0,1,2,3,4,5,6,7,8,9,10],[0,1,2,3,4,5,6,7,8,9,10,11,12,13],[0,1,2,3,4,5,6,7,8,9,10,11,12,13,14],[0,1,2,3,4,5,6,7,8,9,10,11,12,13,14,15],[0,1,2,3,4,5,6,7,8,9,10,11,12,13,14,15,16]]
     [[],[],[],[],[],[],[],[],[],[],[],[],[],[],[],[],[],[]]
     [[],[],[],[],[],[],[],[],[],[],[],[],[],[],[],[],[],[]] (by kernel_rfl) (by kernel_rfl) (A7 (acc:=[]) ?_)
   simp (maxSteps:=2000000)only[go_sem];repeat' (with_reducible first|refine oD ?_|refine oT (fun g12=>?_) (fun g12=>?_)|refine oE (fun g12=>?_) (fun g12=>?_))
   all_goals
    refine hK16 _ ?_;refine A0 ?_;simp only[hres,go_sem]
    first
     | exact oF
     | refine ⟨?_, oF⟩
       have ha:=I7 hp (by omega)
       rw[hN,ha];clear hK1 hK2 hK3 hK5 hK7 hK8 hL9 hK10 hK11 hK16;simp_all
  refine oS fun _ hK17=>?_;refine oW C4 ?_;simp (maxSteps:=2000000)only[go_sem];repeat' (with_reducible first|refine oA ?_|refine oT (fun g4=>?_) (fun g4=>?_)|refine oE (fun g4=>?_) (fun g4=>?_))
  all_goals
   refine hK17 _ ?_;refine D5 rfl ?_ ?_
   ·
    intro c1;try simp only[zA,zB,zC,zD,zE,zF,zG,zH,zI] at c1
    all_goals
     refine oS fun _ hK18=>?_;refine oW C4 ?_;simp only[go_sem];refine hK18 _ ?_;refine A0 ?_;simp only[hres,go_sem];first|exact oF|(refine⟨?_,oF⟩;clear hK1 hK2 hK3 hK5 hK6 hK17 hK18;simp_all [O7,-Int.not_le])
   ·
    intro c1;try simp only[zA,zB,zC,zD,zE,zF,zG,zH,zI] at c1
    all_goals
     refine A2 ?_;simp only[go_sem];refine hK6 _ (oK ?_) ?_
     ·
      simp (maxSteps:=2000000)only[go_sem];all_goals(first|rfl|((repeat' refine And.intro ?_ ?_)<;>first|rfl|exact wk (by omega)|simp))
     ·
      clear hK1 hK2 hK3 hK5 hK6 hK17;simp_all [O7,-Int.not_le]
def A3q:G4:=fun f=>if f=77 then some (.p A1d) else m7 f
theorem A4j:B5 Tryz.prog A3q:=F8 B4c (B0 Tryz.func77 rfl (by decide)) C4
attribute [go_sem] A3q A1d
set_option maxRecDepth 100000
set_option maxHeartbeats 1000000
def j2:Con:=⟨[.val ((.row 26 (.row 2 (.int .i64))))],[⟨.bool,true⟩],fun _=>True,fun x=>Y6 x.1⟩
theorem A9P:C8 Tryz.prog 57 j2:=by
  refine A4 Tryz.func57 rfl ?_
  have hres:Tryz.f57.results.toList=[.tmp 2]:=rfl
  rintro⟨(xs:List (List Int)),_⟩ hc hL
  simp only[j2,go_sem] at hL
  obtain⟨lxs,lxs2⟩:=hL;simp only[j2,St.init,St.initG,Tryz.ntmps57,go_sem] 
  refine oS fun _ hK1=>?_;refine oW C4 ?_;simp only[go_sem];refine hK1 _ ?_;refine oS fun _ hK2=>?_;refine oS fun _ hK3=>?_;refine oW C4 ?_;simp only[go_sem];refine hK3 _ ?_;refine A3 ?_;refine A8 (ι:={ k:Nat // k≤xs.length∧(xs.take k).all A51=true }) (fun k=>⟨[.c (.rd [] 26 (.row 2 (.int .i64)) (xs)),zz,zz,zz,zz,zz,.c (.rd [] 26 (.row 2 (.int .i64)) (xs)),.c (.sc (.int .i64 (xs.length))),.c (.sc (.int .i64 (k.1))),zz,zz,zz,zz,zz,zz,zz,zz,zz,zz,zz,zz,zz,zz,zz,zz,zz,zz,zz,zz,zz,zz,zz,zz,zz,zz,zz,zz],[]⟩) (fun k=>xs.length - k.1) ⟨0,by simp⟩ ?_ ?_
  ·
   refine oK ?_;simp (maxSteps:=2000000)only[go_sem];all_goals(first|rfl|((repeat' refine And.intro ?_ ?_)<;>first|rfl|simp))
  rintro⟨k,hk,hp⟩ K4 hL4
  refine oS fun _ hK5=>?_;refine oW C4 ?_;simp only[go_sem];refine hK5 _ ?_;refine oS fun _ hK6=>?_;refine oC rfl ?_ ?_
  ·
   intro c0;refine A2 ?_;simp only[go_sem];refine hK6 _ ?_;refine oS fun _ hK7=>?_;refine A3 ?_;refine oS fun _ hK8=>?_;refine oW C4 ?_;simp only[go_sem];repeat(with_reducible refine oA ?_)
   refine hK8 _ ?_;refine oS fun _ hK9=>?_;refine oW C4 ?_;simp only[go_sem];refine hK9 _ ?_;refine oS fun _ hK10=>?_;refine oW C4 ?_;simp (maxSteps:=2000000)only[go_sem];repeat' (with_reducible first|refine oA ?_|refine oT (fun g5=>?_) (fun g5=>?_)|refine oE (fun g5=>?_) (fun g5=>?_))
   all_goals
    refine hK10 _ ?_;refine D5 rfl ?_ ?_
    ·
     intro c1;try simp only[zA,zB,zC,zD,zE,zF,zG,zH,zI] at c1
     all_goals
      refine oS fun _ hK11=>?_;refine oW C4 ?_;simp only[go_sem];refine hK11 _ ?_;refine A0 ?_;simp only[hres,go_sem]
      first
       | exact oF
       | refine ⟨?_, oF⟩
         have hq:A51 (xs.getD k [])=false:=by clear hK1 hK2 hK3 hL4 hK5 hK6 hK7 hK8 hK9 hK10 hK11;simp_all [A51]<;>omega
         rw[Y6,M2 (k:=k) (d:=[]) (by omega) hq];rfl
    ·
     intro c1;try simp only[zA,zB,zC,zD,zE,zF,zG,zH,zI] at c1
     all_goals
      have hq:A51 (xs.getD k [])=true:=by clear hK1 hK2 hK3 hL4 hK5 hK6 hK7 hK8 hK9 hK10;simp_all [A51]<;>omega
      refine A2 ?_;simp only[go_sem];refine hK7 _ ?_;refine oW C4 ?_;simp only[go_sem];refine hL4 ⟨k+1,by omega,J6 (d:=[]) (by omega) hp (by first|assumption|(clear hK1 hK2 hK3 hL4 hK5 hK6 hK7 hK8 hK9 hK10;simp_all))⟩ _ (oK ?_) ?_
      ·
       simp (maxSteps:=2000000)only[go_sem];first|rfl|exact wk (by omega)
      ·
       first|(simp only[];omega)|omega|(simp;omega)
  intro c0;refine B6 ?_;simp only[go_sem];refine hK2 _ ?_;refine oS fun _ hK12=>?_;refine oW C4 ?_;simp only[go_sem];refine hK12 _ ?_;refine A0 ?_;simp only[hres,go_sem];first|exact oF|(refine⟨?_,oF⟩;rw[Y6,I7 hp (by omega),Bool.true_and];exact decide_eq_decide.2 (by omega))
def A1p:G4:=fun f=>if f=57 then some (.p j2) else m7 f
theorem J3:B5 Tryz.prog A1p:=F8 A9P (B0 Tryz.func57 rfl (by decide)) C4
attribute [go_sem] A1p j2
def Y3:Con:=⟨[.val ((.row 2 (.int .i64))),.val (.int .i64)],[⟨.bool,true⟩],fun x=>I6 x.2.1 (-9223372036854775807) 9223372036854775807=true,fun x=>N2 x.2.1 x.1⟩
theorem A79:C8 Tryz.prog 58 Y3:=by
  refine A4 Tryz.func58 rfl ?_
  have hres:Tryz.f58.results.toList=[.tmp 4]:=rfl
  rintro⟨(xs:List Int),(m:Int),_⟩ hc hL
  simp only[Y3,go_sem] at hL
  simp only[Y3,St.init,St.initG,Tryz.ntmps58,go_sem] 
  obtain⟨hm1,hm2⟩:=B4.1 (show I6 m _ _=true from hc)
  have hw:IntKind.i64.wrap (m - 1)=m - 1:=H4 (by omega)
  refine oS fun _ hK1=>?_;refine oW J3 ?_;simp only[go_sem];refine hK1 _ ?_;refine oS fun _ hK2=>?_;refine oS fun _ hK3=>?_;refine oW J3 ?_;simp only[go_sem];refine hK3 _ ?_;refine A3 ?_;refine A8 (ι:={ k:Nat // k≤xs.length∧(xs.take k).all (fun i=>I6 i 0 (m - 1))=true }) (fun k=>⟨[zz,.c (.sc (.int .i64 (m))),zz,zz,zz,zz,zz,.c (.rd [] 2 (.int .i64) (xs)),.c (.sc (.int .i64 (xs.length))),.c (.sc (.int .i64 (k.1))),zz,zz,zz,zz,zz,zz,zz,zz,zz],[]⟩) (fun k=>xs.length - k.1) ⟨0,by simp⟩ ?_ ?_
  ·
   refine oK ?_;simp (maxSteps:=2000000)only[go_sem];all_goals(first|rfl|((repeat' refine And.intro ?_ ?_)<;>first|rfl|simp))
  rintro⟨k,hk,hp⟩ K4 hL4
  refine oS fun _ hK5=>?_;refine oW J3 ?_;simp only[go_sem];refine hK5 _ ?_;refine oS fun _ hK6=>?_;refine oC rfl ?_ ?_
  ·
   intro c0;refine A2 ?_;simp only[go_sem];refine hK6 _ ?_;refine oS fun _ hK7=>?_;refine A3 ?_;refine oS fun _ hK8=>?_;refine oW J3 ?_;simp only[go_sem];repeat(with_reducible refine oA ?_)
   refine hK8 _ ?_;refine oS fun _ hK9=>?_;refine oW J3 ?_;simp (maxSteps:=2000000)only[hw,go_sem];repeat(with_reducible refine oA ?_)
   refine hK9 _ ?_;refine oC rfl ?_ ?_
   ·
    intro c1;refine oS fun _ hK10=>?_;refine oW J3 ?_;simp only[go_sem];refine hK10 _ ?_;refine A0 ?_;simp only[hres,go_sem];first|exact oF|(refine⟨?_,oF⟩;exact(M2 (k:=k) (d:=0) (by omega) (by first|assumption|(clear hp;clear hK1 hK2 hK3 hL4 hK5 hK6 hK7 hK8 hK9 hK10;simp_all))).symm)
   intro c1;refine A2 ?_;simp only[go_sem];refine hK7 _ ?_;refine oW J3 ?_;simp only[go_sem];refine hL4 ⟨k+1,by omega,J6 (d:=0) (by omega) hp (by first|assumption|(clear hK1 hK2 hK3 hL4 hK5 hK6 hK7 hK8 hK9;simp_all))⟩ _ (oK ?_) ?_
   ·
    simp (maxSteps:=2000000)only[go_sem];first|rfl|exact wk (by omega)
   ·
    first|(simp only[];omega)|omega|(simp;omega)
  intro c0;refine B6 ?_;simp only[go_sem];refine hK2 _ ?_;refine oS fun _ hK11=>?_;refine oW J3 ?_;simp only[go_sem];refine hK11 _ ?_;refine A0 ?_;simp only[hres,go_sem];first|exact oF|(refine⟨?_,oF⟩;exact(I7 hp (by omega)).symm)
def A0r:G4:=fun f=>if f=58 then some (.p Y3) else A1p f
theorem R5:B5 Tryz.prog A0r:=F8 A79 (B0 Tryz.func58 rfl (by decide)) J3
attribute [go_sem] A0r Y3
def w3:Con:=⟨[.val ((.prod (.int .i64) (.prod (.int .i64) (.prod (.int .i64) (.row 2 (.int .i64))))))],[⟨(.row 2 (.int .i64)),false⟩],fun _=>True,fun x=>G9 x.1⟩
theorem A9f:C8 Tryz.prog 78 w3:=by
  refine A4 Tryz.func78 rfl ?_
  have hres:Tryz.f78.results.toList=[.tmp 2]:=rfl
  rintro⟨⟨(kd:Int),(a:Int),(bb:Int),(fr:List Int)⟩,_⟩ hc hL
  simp only[w3,go_sem] at hL
  simp only[w3,St.init,St.initG,Tryz.ntmps78,go_sem] 
  refine oS fun _ hK1=>?_;refine oW R5 ?_;simp only[go_sem];refine hK1 _ ?_;refine oS fun _ hK2=>?_;refine oS fun _ hK3=>?_;refine oW R5 ?_;simp only[go_sem];repeat(with_reducible refine oA ?_)
  refine hK3 _ ?_;refine oC rfl ?_ ?_
  ·
   intro c0;refine oS fun _ hK4=>?_;refine oW R5 ?_;simp only[go_sem];refine hK4 _ ?_;refine A0 ?_;simp only[hres,go_sem];first|exact oF|(refine⟨?_,oF⟩;clear hK1 hK2 hK3 hK4;simp_all [G9])
  intro c0;refine A2 ?_;simp only[go_sem];refine hK2 _ ?_;refine oS fun _ hK5=>?_;refine oW R5 ?_;simp only[go_sem];repeat(with_reducible refine oA ?_)
  refine hK5 _ ?_;refine A0 ?_;simp only[hres,go_sem];first|exact oF|(refine⟨?_,oF⟩;clear hK1 hK2 hK3 hK5;simp_all [G9])
def t4:G4:=fun f=>if f=78 then some (.p w3) else A0r f
theorem D6:B5 Tryz.prog t4:=F8 A9f (B0 Tryz.func78 rfl (by decide)) R5
attribute [go_sem] t4 w3
end Go.Proofs.YtenjbehedcegdaaGreat
