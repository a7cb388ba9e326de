/-
  Texts of this claim, joined (part 46). No condition beyond those of the theorems.
-/
import Derived.Test.YtgaogcnfijbahaaGreatQ45
import Derived.Test.YtgaogcnfijbahaaGreatQ44
namespace Go.Proofs.YtgaogcnfijbahaaGreat
open Go.RowKit
set_option linter.unusedSimpArgs false
set_option linter.unusedVariables false
set_option maxRecDepth 100000
set_option maxHeartbeats 8000000
def B3N:E4:=fun f=>match A8h f with
 | some k=>some k
 | none=>A0a f
theorem G2:B4 Tryz.prog B3N:=N2 B4t A2i
attribute [go_sem] B3N T0
def A1y:Con:=⟨[.val ((.row 28 (.prod (.int .i64) (.prod (.row 26 (.row 2 (.int .i64))) (.prod (.row 95 (.prod (.int .i64) (.prod (.int .i64) (.prod (.int .i64) (.row 2 (.int .i64)))))) (.row 2 (.int .i64)))))))],[⟨.int .i64,true⟩],fun _=>True,fun x=>O8 x.1⟩
theorem B87:C9 Tryz.prog 17 A1y:=by
  refine A4 Tryz.func17 rfl ?_
  have hres:Tryz.f17.results.toList=[.tmp 2]:=rfl
  rintro⟨(ps:List A3),_⟩ hc hL
  simp only[A1y,go_sem] at hL
  simp only[A1y,St.init,St.initG,Tryz.ntmps17,go_sem] 
  refine oS fun _ hK1=>?_;refine oW G2 ?_;simp only[go_sem];refine hK1 _ ?_;refine oS fun _ hK2=>?_;refine oS fun _ hK3=>?_;refine oW G2 ?_;simp only[go_sem];refine hK3 _ ?_;refine A1 ?_;refine A7 (ι:={ k:Nat // k≤ps.length∧(ps.take k).all B9=true }) (fun k=>⟨[.c (.rd [] 28 ((.prod (.int .i64) (.prod (.row 26 (.row 2 (.int .i64))) (.prod (.row 95 (.prod (.int .i64) (.prod (.int .i64) (.prod (.int .i64) (.row 2 (.int .i64)))))) (.row 2 (.int .i64)))))) (ps)),zz,zz,zz,zz,zz,zz,zz,zz,.c (.rd [] 28 ((.prod (.int .i64) (.prod (.row 26 (.row 2 (.int .i64))) (.prod (.row 95 (.prod (.int .i64) (.prod (.int .i64) (.prod (.int .i64) (.row 2 (.int .i64)))))) (.row 2 (.int .i64)))))) (ps)),.c (.sc (.int .i64 (ps.length))),.c (.sc (.int .i64 (k.1))),zz,zz,zz,zz,zz,zz,zz,zz,zz,zz,zz,zz,zz,zz,zz,zz,zz,zz,zz,zz,zz,zz,zz,zz,zz,zz,zz,zz,zz,zz,zz,zz,zz,zz,zz,zz,zz,zz,zz,zz,zz,zz,zz,zz,zz,zz,zz],[]⟩) (fun k=>ps.length - k.1) ⟨0,by simp⟩ ?_ ?_
  ·
   refine oK ?_;simp (maxSteps:=2000000)only[go_sem];all_goals(first|rfl|((repeat' refine And.intro ?_ ?_)<;>first|rfl|simp))
  rintro⟨k,hk,hp⟩ K4 hL4
  refine oS fun _ hK5=>?_;refine oW G2 ?_;simp only[go_sem];refine hK5 _ ?_;refine oS fun _ hK6=>?_;refine oC rfl ?_ ?_
  ·
   intro c0;refine A2 ?_;simp only[go_sem];refine hK6 _ ?_;refine oS fun _ hK7=>?_;refine A1 ?_;refine oS fun _ hK8=>?_;refine oW G2 ?_;simp only[go_sem];repeat(with_reducible refine oA ?_)
   refine hK8 _ ?_;refine oS fun _ hK9=>?_;refine oW G2 ?_;simp only[go_sem];repeat(with_reducible refine oA ?_)
   refine hK9 _ ?_;refine oC rfl ?_ ?_
   ·
    intro c1;refine oS fun _ hK10=>?_;refine oW G2 ?_;simp only[go_sem];refine hK10 _ ?_;refine A0 ?_;simp only[hres,go_sem];first|exact oF|(refine⟨?_,oF⟩;rw[C6N (N5 (k:=k) (d:=((0,[],[],[]):A3)) (by omega) (by first|assumption|(clear hp;clear hK1 hK2 hK3 hL4 hK5 hK6 hK7 hK8 hK9 hK10;simp_all)))])
   intro c1;refine A2 ?_;simp only[go_sem];refine hK7 _ ?_;refine oW G2 ?_;simp only[go_sem];refine hL4 ⟨k+1,by omega,L6 (d:=((0,[],[],[]):A3)) (by omega) hp (by first|assumption|(clear hK1 hK2 hK3 hL4 hK5 hK6 hK7 hK8 hK9;simp_all))⟩ _ (oK ?_) ?_
   ·
    simp (maxSteps:=2000000)only[go_sem];first|rfl|exact wk (by omega)
   ·
    first|(simp only[];omega)|omega|(simp;omega)
  intro c0;have hA1:ps.all B9=true:=L3 hp (by omega)
  refine B6 ?_;simp only[go_sem];refine hK2 _ ?_;refine oS fun _ hK11=>?_;refine oS fun _ hK12=>?_;refine oW G2 ?_;simp only[go_sem];refine hK12 _ ?_;refine A1 ?_;refine A7 (ι:={ k:Nat // k≤ps.length∧(ps.take k).all (Z6 ps)=true }) (fun k=>⟨[.c (.rd [] 28 ((.prod (.int .i64) (.prod (.row 26 (.row 2 (.int .i64))) (.prod (.row 95 (.prod (.int .i64) (.prod (.int .i64) (.prod (.int .i64) (.row 2 (.int .i64)))))) (.row 2 (.int .i64)))))) (ps)),zz,zz,zz,zz,zz,zz,zz,zz,zz,zz,zz,zz,zz,zz,zz,zz,zz,zz,.c (.rd [] 28 ((.prod (.int .i64) (.prod (.row 26 (.row 2 (.int .i64))) (.prod (.row 95 (.prod (.int .i64) (.prod (.int .i64) (.prod (.int .i64) (.row 2 (.int .i64)))))) (.row 2 (.int .i64)))))) (ps)),.c (.sc (.int .i64 (ps.length))),.c (.sc (.int .i64 (k.1))),zz,zz,zz,zz,zz,zz,zz,zz,zz,zz,zz,zz,zz,zz,zz,zz,zz,zz,zz,zz,zz,zz,zz,zz,zz,zz,zz,zz,zz,zz,zz,zz,zz,zz,zz,zz,zz],[]⟩) (fun k=>ps.length - k.1) ⟨0,by simp⟩ ?_ ?_
  ·
   refine oK ?_;simp (maxSteps:=2000000)only[go_sem];all_goals(first|rfl|((repeat' refine And.intro ?_ ?_)<;>first|rfl|simp))
  rintro⟨k,hk,hp⟩ K13 hL13
  refine oS fun _ hK14=>?_;refine oW G2 ?_;simp only[go_sem];refine hK14 _ ?_;refine oS fun _ hK15=>?_;refine oC rfl ?_ ?_
  ·
   intro c2;have hpk:B9 (ps.getD k ((0,[],[],[]):A3))=true:=C1s hA1 (by omega)
   have hfk:C0 ((ps.getD k ((0,[],[],[]):A3)).1,(ps.getD k ((0,[],[],[]):A3)).2.1,(ps.getD k ((0,[],[],[]):A3)).2.2.1,(ps.getD k ((0,[],[],[]):A3)).2.2.2)=true:=(B8 (p:=(ps.getD k ((0,[],[],[]):A3))) hpk).1
   have hpos:0 < ps.length:=by omega
   refine A2 ?_;simp only[go_sem];refine hK15 _ ?_;refine oS fun _ hK16=>?_;refine A1 ?_;refine oS fun _ hK17=>?_;refine oW G2 ?_;simp only[go_sem];repeat(with_reducible refine oA ?_)
   refine hK17 _ ?_;refine oS fun _ hK18=>?_
   refine oR G2
     [[],[0],[0,1],[0,1,2],[0,1,2,3],[0,1,2,3,4],[0,1,2,3],[0,1,2,3,6],[0,1,2,3,6,7],[0,1,2,3,6,7,8],[0,1,2,3,4,5,6,7,8,9],[0,1,2,3,4,5,6,7,8,9,10],[0,1,2,3,4,5,6,7,8,9,10,11],[0,1,2,3,4,5,6,7,8,9,10,11,12],[0,1,2,3,4,5,6,7,8,9,10,11,12,13],[0,1,2,3,4,5,6,7,8,9,10,11,12,13,14],[0,1,2,3,4,5,6,7,8,9,10,11,12],[0,1,2,3,4,5,6,7,8,9,10,11,12,16],[0,1,2,3,4,5,6,7,8,9,10,11,12,16,17],[0,1,2,3,4,5,6,7,8,9,10,11,12,16,17,18],[0,1,2,3,4,5,6,7,8,9,10,11,12,16,17,18,19],[0,1,2,3,4,5,6,7,8,9,10,11,12,13,14,15,16,17,18,19,20],[0,1,2,3,4,5,6,7,8,9,10,11,12,13,14,15,16,17,18,19,20,21]]
     [[],[],[],[],[],[],[],[],[],[],[],[],[],[],[],[],[],[],[],[],[],[],[]]
     [[],[],[],[],[],[],[],[],[],[],[],[],[],[],[],[],[],[],[],[],[],[],[]] (by kernel_rfl) (by kernel_rfl) (A9 (acc:=[]) ?_)
   simp (maxSteps:=2000000)only[go_sem];repeat' (with_reducible first|refine oD ?_|refine And.intro (by first|exact hfk|exact hpos|omega) ?_|refine oT (fun g10=>?_) (fun g10=>?_)|refine oE (fun g10=>?_) (fun g10=>?_))
   all_goals
    refine hK18 _ ?_;refine E2 rfl ?_ ?_
    ·
     intro c3;try simp only[zA,zB,zC,zD,zE,zF,zG,zH,zI] at c3
     all_goals
      refine oS fun _ hK19=>?_;refine oW G2 ?_;simp only[go_sem];refine hK19 _ ?_;refine A0 ?_;simp only[hres,go_sem]
      first
       | exact oF
       | refine ⟨?_, oF⟩
         have hq:Z6 ps (ps.getD k ((0,[],[],[]):A3))=false:=by clear hK1 hK2 hK3 hL4 hK5 hK6 hK11 hK12 hL13 hK14 hK15 hK16 hK17 hK18 hK19;unfold Z6;simp_all<;>omega
         rw[C5V hA1 (N5 (k:=k) (d:=((0,[],[],[]):A3)) (by omega) hq)]
    ·
     intro c3;try simp only[zA,zB,zC,zD,zE,zF,zG,zH,zI] at c3
     all_goals
      have hq:Z6 ps (ps.getD k ((0,[],[],[]):A3))=true:=by clear hK1 hK2 hK3 hL4 hK5 hK6 hK11 hK12 hL13 hK14 hK15 hK16 hK17 hK18;unfold Z6;simp_all<;>omega
      refine A2 ?_;simp only[go_sem];refine hK16 _ ?_;refine oW G2 ?_;simp only[go_sem];refine hL13 ⟨k+1,by omega,L6 (d:=((0,[],[],[]):A3)) (by omega) hp (by first|assumption|(clear hK1 hK2 hK3 hL4 hK5 hK6 hK11 hK12 hL13 hK14 hK15 hK16 hK17 hK18;simp_all))⟩ _ (oK ?_) ?_
      ·
       simp (maxSteps:=2000000)only[go_sem];first|rfl|exact wk (by omega)
      ·
       first|(simp only[];omega)|omega|(simp;omega)
  intro c2;have hA2:ps.all (Z6 ps)=true:=L3 hp (by omega)
  refine B6 ?_;simp only[go_sem];refine hK11 _ ?_;refine oS fun _ hK20=>?_;refine oS fun _ hK21=>?_;refine oW G2 ?_;simp only[go_sem];refine hK21 _ ?_;refine A1 ?_;refine A7 (ι:={ k:Nat // k≤ps.length∧(ps.take k).all (fun p=>decide (A1I p≤24))=true }) (fun k=>⟨[zz,zz,zz,zz,zz,zz,zz,zz,zz,zz,zz,zz,zz,zz,zz,zz,zz,zz,zz,zz,zz,zz,zz,zz,zz,zz,zz,zz,zz,zz,zz,zz,zz,zz,zz,zz,zz,zz,zz,zz,zz,zz,zz,zz,zz,zz,zz,zz,zz,.c (.rd [] 28 ((.prod (.int .i64) (.prod (.row 26 (.row 2 (.int .i64))) (.prod (.row 95 (.prod (.int .i64) (.prod (.int .i64) (.prod (.int .i64) (.row 2 (.int .i64)))))) (.row 2 (.int .i64)))))) (ps)),.c (.sc (.int .i64 (ps.length))),.c (.sc (.int .i64 (k.1))),zz,zz,zz,zz,zz,zz,zz],[]⟩) (fun k=>ps.length - k.1) ⟨0,by simp⟩ ?_ ?_
  ·
   refine oK ?_;simp (maxSteps:=2000000)only[go_sem];all_goals(first|rfl|((repeat' refine And.intro ?_ ?_)<;>first|rfl|simp))
  rintro⟨k,hk,hp⟩ K22 hL22
  refine oS fun _ hK23=>?_;refine oW G2 ?_;simp only[go_sem];refine hK23 _ ?_;refine oS fun _ hK24=>?_;refine oC rfl ?_ ?_
  ·
   intro c4;have hpk:B9 (ps.getD k ((0,[],[],[]):A3))=true:=C1s hA1 (by omega)
   have hfk:C0 ((ps.getD k ((0,[],[],[]):A3)).1,(ps.getD k ((0,[],[],[]):A3)).2.1,(ps.getD k ((0,[],[],[]):A3)).2.2.1,(ps.getD k ((0,[],[],[]):A3)).2.2.2)=true:=(B8 (p:=(ps.getD k ((0,[],[],[]):A3))) hpk).1
   refine A2 ?_;simp only[go_sem];refine hK24 _ ?_;refine oS fun _ hK25=>?_;refine A1 ?_;refine oS fun _ hK26=>?_;refine oW G2 ?_;simp only[go_sem];repeat(with_reducible refine oA ?_)
   refine hK26 _ ?_;refine oS fun _ hK27=>?_;refine oW G2 ?_;simp only[go_sem];repeat(with_reducible first|refine oA ?_|refine And.intro (by first|exact hfk) ?_)
   refine hK27 _ ?_;refine oC rfl ?_ ?_
   ·
    intro c5;refine oS fun _ hK28=>?_;refine oW G2 ?_;simp only[go_sem];refine hK28 _ ?_;refine A0 ?_;simp only[hres,go_sem];first|exact oF|(refine⟨?_,oF⟩;rw[C4s hA1 hA2 (N5 (k:=k) (d:=((0,[],[],[]):A3)) (by omega) (by exact decide_eq_false (by have h:=(show (A1I (ps.getD k ((0,[],[],[]):A3)):Int) > 24 from c5);omega)))])
   intro c5;have hz:decide (A1I (ps.getD k ((0,[],[],[]):A3))≤24)=true:=decide_eq_true (by have h:=(show (A1I (ps.getD k ((0,[],[],[]):A3)):Int)≤24 from by first|exact c5|(have:=c5;omega));omega)
   refine A2 ?_;simp only[go_sem];refine hK25 _ ?_;refine oW G2 ?_;simp only[go_sem];refine hL22 ⟨k+1,by omega,L6 (d:=((0,[],[],[]):A3)) (by omega) hp (by first|assumption|(clear hK1 hK2 hK3 hL4 hK5 hK6 hK11 hK12 hL13 hK14 hK15 hK20 hK21 hL22 hK23 hK24 hK25 hK26 hK27;simp_all))⟩ _ (oK ?_) ?_
   ·
    simp (maxSteps:=2000000)only[go_sem];first|rfl|exact wk (by omega)
   ·
    first|(simp only[];omega)|omega|(simp;omega)
  intro c4;have hA3:ps.all (fun p=>decide (A1I p≤24))=true:=L3 hp (by omega)
  refine B6 ?_;simp only[go_sem];refine hK20 _ ?_;refine oS fun _ hK29=>?_;refine oW G2 ?_;simp only[go_sem];refine hK29 _ ?_;refine A0 ?_;simp only[hres,go_sem];first|exact oF|(refine⟨?_,oF⟩;rw[C5A hA1 hA2 hA3])
def A7D:E4:=fun f=>if f=17 then some (.p A1y) else B3N f
theorem B3b:B4 Tryz.prog A7D:=E3 B87 (B0 Tryz.func17 rfl (by decide)) G2
attribute [go_sem] A7D A1y
def A3d:E4:=A7D
theorem A8l:B4 Tryz.prog A3d:=B3b
attribute [go_sem] A3d
end Go.Proofs.YtgaogcnfijbahaaGreat
