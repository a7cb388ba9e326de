/-
  Texts of this claim, joined (part 44). No condition beyond those of the theorems.
-/
import Derived.Test.YtflobmmbhaofbaaGreatQ42
import Derived.Test.YtflobmmbhaofbaaGreatQ43
import Derived.Test.YtflobmmbhaofbaaGreatQ04
import Derived.Test.YtflobmmbhaofbaaGreatQ06
namespace Go.Proofs.YtflobmmbhaofbaaGreat
open Go.RowKit
set_option linter.unusedSimpArgs false
set_option linter.unusedVariables false
set_option maxRecDepth 100000
set_option maxHeartbeats 1000000
def B1M:F8:=fun f=>match A0X f with
 | some k=>some k
 | none=>B2H f
theorem A4Y:B8 Tryz.prog B1M:=T3 A5S B4w
attribute [go_sem] B1M T0
def A1n:Con:=⟨[.val ((.prod (.int .i64) (.prod (.row 26 (.row 2 (.int .i64))) (.prod (.row 56 (.prod (.int .i64) (.prod (.int .i64) (.prod (.int .i64) (.row 2 (.int .i64)))))) (.row 2 (.int .i64))))))],[⟨.bool,true⟩],fun _=>True,fun x=>C7 x.1⟩
theorem B4i:D4 Tryz.prog 31 A1n:=by
  refine A7 Tryz.func31 rfl ?_
  have hres:Tryz.f31.results.toList=[.tmp 2]:=rfl
  rintro⟨⟨(pi:Int),(ts:List (List Int)),(ns:List A4),(os:List Int)⟩,_⟩ hc hL
  simp only[A1n,go_sem] at hL
  obtain⟨⟨lts,lts2⟩,⟨lns,lns2⟩,los⟩:=hL
  simp only[A1n,St.init,St.initG,Tryz.ntmps31,go_sem] 
  refine oS fun _ hK1=>?_;refine oW A4Y ?_;simp only[go_sem];repeat(with_reducible first|refine oA ?_|refine And.intro (by first|clear hK1;simp_all) ?_)
  refine hK1 _ ?_;refine oS fun _ hK2=>?_
  refine oR A4Y
    [[],[0],[0,1],[0,1,2],[0,1,2,3],[0,1,2,3,4],[0,1,2],[0,1,2,6],[0,1,2,6,7],[0,1,2,3,4,5,6,7,8],[0,1,2,3,4,5,6,7,8,9],[0,1,2,3,4,5,6,7,8,9,10]]
    [[],[],[],[],[],[],[212,213,214,215,216,217,218,219,220,221,222,223,224,225,226,227],[212,213,214,215,216,217,218,219,220,221,222,223,224,225,226,227],[212,213,214,215,216,217,218,219,220,221,222,223,224,225,226,227],[],[],[]]
    [[],[],[],[],[212,213,214,215,216,217,218,219,220,221,222,223,224,225,226,227],[],[],[],[],[],[],[]] (by kernel_rfl) (by kernel_rfl) (B7 (acc:=[]) ?_)
  simp (maxSteps:=2000000)only[go_sem];repeat' (with_reducible first|refine oD ?_|refine And.intro (by first|clear hK1 hK2;simp_all) ?_|refine oT (fun g1=>?_) (fun g1=>?_)|refine oE (fun g1=>?_) (fun g1=>?_))
  all_goals
   refine hK2 _ ?_;refine A2 ?_;simp only[hres,go_sem];first|exact oF|(refine⟨?_,oF⟩;clear hK1 hK2;simp_all [C7]<;>first|rfl|exact decide_eq_decide.2 (by omega))
def A6D:F8:=fun f=>if f=31 then some (.p A1n) else B1M f
theorem U2:B8 Tryz.prog A6D:=F9 B4i (B6 Tryz.func31 rfl (by decide)) A4Y
attribute [go_sem] A6D A1n
def t7:Con:=⟨[.val (.prod (.int .i64) (.prod (.row 26 (.row 2 (.int .i64))) (.prod (.row 56 (.prod (.int .i64) (.prod (.int .i64) (.prod (.int .i64) (.row 2 (.int .i64)))))) (.row 2 (.int .i64))))),.val (.prod (.int .i64) (.prod (.row 26 (.row 2 (.int .i64))) (.prod (.row 56 (.prod (.int .i64) (.prod (.int .i64) (.prod (.int .i64) (.row 2 (.int .i64)))))) (.row 2 (.int .i64)))))],[⟨.int .i64,true⟩],fun _=>True,fun x=>j8 x.1 x.2.1⟩
theorem B29:D4 Tryz.prog 13 t7:=by
  refine A7 Tryz.func13 rfl ?_
  have hres:Tryz.f13.results.toList=[.tmp 4]:=rfl
  rintro⟨⟨(pi:Int),(ts:List (List Int)),(ns:List A4),(os:List Int)⟩,⟨(pi2:Int),(ts2:List (List Int)),(ns2:List A4),(os2:List Int)⟩,_⟩ hc hL
  simp only[t7,go_sem] at hL
  simp only[t7,St.init,St.initG,Tryz.ntmps13,go_sem] 
  refine oS fun _ hK1=>?_;refine oW U2 ?_;simp only[go_sem];refine hK1 _ ?_;refine oS fun _ hK2=>?_;refine oS fun _ hK3=>?_;refine oW U2 ?_;simp (maxSteps:=2000000)only[go_sem];repeat' (with_reducible first|refine oA ?_|refine oT (fun g1=>?_) (fun g1=>?_)|refine oE (fun g1=>?_) (fun g1=>?_))
  all_goals
   refine hK3 _ ?_;refine D2 rfl ?_ ?_
   ·
    intro c0;try simp only[zA,zB,zC,zD,zE,zF,zG,zH,zI] at c0
    all_goals
     refine oS fun _ hK4=>?_;refine oW U2 ?_;simp only[go_sem];refine hK4 _ ?_;refine A2 ?_;simp only[hres,go_sem];first|exact oF|(refine⟨?_,oF⟩;clear hK1 hK2 hK3 hK4;simp_all [j8])
   ·
    intro c0;try simp only[zA,zB,zC,zD,zE,zF,zG,zH,zI] at c0
    all_goals
     refine A3 ?_;simp only[go_sem];refine hK2 _ ?_;refine oS fun _ hK5=>?_;refine oS fun _ hK6=>?_;refine oW U2 ?_;simp (maxSteps:=2000000)only[go_sem];repeat(with_reducible refine oA ?_)
     refine hK6 _ ?_;refine D2 rfl ?_ ?_
     ·
      intro c1;try simp only[zA,zB,zC,zD,zE,zF,zG,zH,zI] at c1
      all_goals
       refine oS fun _ hK7=>?_;refine oW U2 ?_;simp only[go_sem];refine hK7 _ ?_;refine A2 ?_;simp only[hres,go_sem];first|exact oF|(refine⟨?_,oF⟩;clear hK1 hK2 hK3 hK5 hK6 hK7;simp_all [j8])
     ·
      intro c1;try simp only[zA,zB,zC,zD,zE,zF,zG,zH,zI] at c1
      all_goals
       refine A3 ?_;simp only[go_sem];refine hK5 _ ?_;refine oS fun _ hK8=>?_;refine oW U2 ?_;simp only[go_sem];refine hK8 _ ?_;refine A2 ?_;simp only[hres,go_sem];first|exact oF|(refine⟨?_,oF⟩;clear hK1 hK2 hK3 hK5 hK6 hK8;simp_all [j8])
def A2j:F8:=fun f=>if f=13 then some (.p t7) else A6D f
theorem A8g:B8 Tryz.prog A2j:=F9 B29 (B6 Tryz.func13 rfl (by decide)) U2
attribute [go_sem] A2j t7
set_option maxRecDepth 100000
set_option maxHeartbeats 1000000
def A5Y:Con:=⟨[.val ((.row 2 (.int .i64)))],[⟨(.row 2 (.int .i64)),true⟩],fun x=>x.1.length≤1099511627776,fun x=>x.1⟩
theorem B94:D4 Tryz.prog 57 A5Y:=by
  refine A7 Tryz.func57 rfl ?_
  have hres:Tryz.f57.results.toList=[.tmp 2]:=rfl
  rintro⟨(xs:List Int),_⟩ hc hL
  simp only[A5Y,go_sem] at hL
  simp only[A5Y,St.init,St.initG,Tryz.ntmps57,go_sem] 
  have hx:xs.length≤1099511627776:=hc
  refine oS fun _ hK1=>?_;refine oW D5 ?_;simp only[go_sem];refine hK1 _ ?_;refine oS fun _ hK2=>?_;refine oW D5 ?_;simp only[go_sem];repeat(with_reducible refine oA ?_)
  refine hK2 _ ?_;refine A2 ?_;simp only[hres,go_sem];first|exact oF|exact oFr
def B1h:F8:=fun f=>if f=57 then some (.p A5Y) else y7 f
theorem T9:B8 Tryz.prog B1h:=F9 B94 (B6 Tryz.func57 rfl (by decide)) D5
attribute [go_sem] B1h A5Y
def A2l:Con:=⟨[.val ((.row 26 (.row 2 (.int .i64))))],[⟨(.row 26 (.row 2 (.int .i64))),true⟩],fun x=>B6e x.1,fun x=>x.1⟩
theorem B7s:D4 Tryz.prog 35 A2l:=by
  refine A7 Tryz.func35 rfl ?_
  have hres:Tryz.f35.results.toList=[.tmp 2]:=rfl
  rintro⟨(xs:List (List Int)),_⟩ hc hL
  simp only[A2l,go_sem] at hL
  simp only[A2l,St.init,St.initG,Tryz.ntmps35,go_sem] 
  obtain⟨hx,hy⟩:=(show B6e xs from hc)
  refine oS fun _ hK1=>?_;refine oW T9 ?_;simp only[go_sem];refine hK1 _ ?_;refine oS fun _ hK2=>?_;refine oW T9 ?_;simp only[List.nodup_nil,go_sem];repeat(with_reducible refine oA ?_)
  refine hK2 _ ?_;refine oS fun _ hK3=>?_;refine oS fun _ hK4=>?_;refine oW T9 ?_;simp only[go_sem];refine hK4 _ ?_;refine A5 ?_;refine B4 (ι:={ k:Nat // k≤xs.length }) (fun k=>⟨[zz,zz,zz,.c (.ow 9001),zz,zz,zz,.c (.rd [] 26 (.row 2 (.int .i64)) (xs)),.c (.sc (.int .i64 (xs.length))),.c (.sc (.int .i64 (k.1))),zz,zz,zz,zz,zz,zz,zz,zz,zz,zz],[(9001,.tree 26 (.row 2 (.int .i64)) (xs.take k.1) none)]⟩) (fun k=>xs.length - k.1) ⟨0,by simp⟩ ?_ ?_
  ·
   refine oK ?_;simp (maxSteps:=2000000)only[go_sem];all_goals(first|rfl|((repeat' refine And.intro ?_ ?_)<;>first|rfl|simp))
  rintro⟨k,hk⟩ K5 hL5
  have htk:(List.take k xs).length≤1099511627776:=by rw[List.length_take];omega
  have hyk:k < xs.length→(xs.getD k []).length≤1099511627776:=fun h=>hy _ (B9 h)
  refine oS fun _ hK6=>?_;refine oW T9 ?_;simp only[go_sem];refine hK6 _ ?_;refine oS fun _ hK7=>?_;refine oC rfl ?_ ?_
  ·
   intro c0;refine A3 ?_;simp only[go_sem];refine hK7 _ ?_;refine oS fun _ hK8=>?_;refine A5 ?_;refine oS fun _ hK9=>?_;refine oW T9 ?_;simp only[go_sem];repeat(with_reducible refine oA ?_)
   refine hK9 _ ?_;refine oW T9 ?_;simp (maxSteps:=2000000)only[List.nodup_cons,List.nodup_nil,List.not_mem_nil,not_false_eq_true,go_sem];repeat(with_reducible first|refine oA ?_|refine And.intro (by first|omega) ?_)
   refine hK8 _ ?_;refine oW T9 ?_;simp only[go_sem];refine hL5 ⟨k+1,by omega⟩ _ (oK ?_) ?_
   ·
    simp (maxSteps:=2000000)only[go_sem];all_goals first|rfl|exact wk (by omega)|exact⟨wk (by omega),by rw[G7 (xs:=xs) (k:=k) (d:=[]) (by omega)]⟩
   ·
    first|(simp only[];omega)|omega|(simp;omega)
  intro c0;refine C2 ?_;simp only[go_sem];refine hK3 _ ?_;refine oS fun _ hK10=>?_;refine oW T9 ?_;simp only[go_sem];refine hK10 _ ?_;refine A2 ?_;simp only[hres,go_sem];first|exact oF|(refine⟨?_,oF⟩;exact List.take_of_length_le (by omega))
def A8f:F8:=fun f=>if f=35 then some (.p A2l) else B1h f
theorem M1:B8 Tryz.prog A8f:=F9 B7s (B6 Tryz.func35 rfl (by decide)) T9
attribute [go_sem] A8f A2l
def Y7:Con:=⟨[.val ((.prod (.int .i64) (.prod (.int .i64) (.prod (.int .i64) (.row 2 (.int .i64)))))),.val (.int .i64),.val (.int .i64)],[⟨(.prod (.int .i64) (.prod (.int .i64) (.prod (.int .i64) (.row 2 (.int .i64))))),true⟩],fun x=>x.1.2.2.2.length≤1099511627776,fun x=>M2 x.2.1 x.2.2.1 x.1⟩
theorem A8j:D4 Tryz.prog 34 Y7:=by
  refine A7 Tryz.func34 rfl ?_
  have hres:Tryz.f34.results.toList=[.cell 6 56]:=rfl
  rintro⟨⟨(kd:Int),(a:Int),(bb:Int),(fr:List Int)⟩,(nn:Int),(nt:Int),_⟩ hc hL
  simp only[Y7,go_sem] at hL
  simp only[Y7,St.init,St.initG,Tryz.ntmps34,go_sem] 
  have hx:fr.length≤1099511627776:=hc
  refine oS fun _ hK1=>?_;refine oW M1 ?_;simp only[go_sem];refine hK1 _ ?_;refine oS fun _ hK2=>?_;refine oW M1 ?_;simp (maxSteps:=2000000)only[go_sem];repeat(with_reducible refine oA ?_)
  refine hK2 _ ?_;refine oS fun _ hK3=>?_;refine oS fun _ hK4=>?_;refine oW M1 ?_;simp only[go_sem];repeat(with_reducible refine oA ?_)
  refine hK4 _ ?_;refine A5 ?_;refine B4 (ι:={ k:Nat // k≤fr.length }) (fun k=>⟨[zz,.c (.sc (.int .i64 (nn))),.c (.sc (.int .i64 (nt))),.c (.po 148 0),zz,zz,.c (.po 196 0),zz,zz,zz,zz,zz,zz,zz,.c (.sc (.int .i64 (fr.length))),.c (.sc (.int .i64 (k.1))),zz,zz,zz,zz,zz,zz,zz,zz,zz,zz,zz,zz,zz,zz,zz,zz,zz,zz,zz,zz],[(148,.box [.sc (.int .i64 (kd)),.sc (.int .i64 (a)),.sc (.int .i64 (bb)),.ow 9001]),(196,.box [.sc (.int .i64 (0)),.sc (.int .i64 (0)),.sc (.int .i64 (0)),.sc (.slice none 0 0)]),(9001,.row 2 (.int .i64) ((fr.take k.1).map (j7 nn)++fr.drop k.1) [])]⟩) (fun k=>fr.length - k.1) ⟨0,by simp⟩ ?_ ?_
  ·
   refine oK ?_;simp (maxSteps:=2000000)only[go_sem];all_goals(first|rfl|((repeat' refine And.intro ?_ ?_)<;>first|rfl|simp))
  rintro⟨k,hk⟩ K5 hL5
  have hlm0:(List.map (j7 nn) (List.take k fr)).length+(List.drop k fr).length=fr.length:=by rw[←List.length_append];exact A4c
  have hlm:((fr.take k).map (j7 nn)++fr.drop k).length=fr.length:=A4c
  refine oS fun _ hK6=>?_;refine oW M1 ?_;simp only[go_sem];refine hK6 _ ?_;refine oS fun _ hK7=>?_;refine oC rfl ?_ ?_
  ·
   intro c0;refine A3 ?_;simp only[go_sem];refine hK7 _ ?_;refine oS fun _ hK8=>?_;refine A5 ?_;refine oS fun _ hK9=>?_;refine oW M1 ?_;simp only[go_sem];refine hK9 _ ?_;refine oW M1 ?_;simp (maxSteps:=2000000)only[go_sem];repeat(with_reducible refine oA ?_)
   refine hK8 _ ?_;refine oW M1 ?_;simp only[go_sem];refine hL5 ⟨k+1,by omega⟩ _ (oK ?_) ?_
   ·
    simp (maxSteps:=2000000)only[go_sem];all_goals first|rfl|exact wk (by omega)|exact⟨wk (by omega),by rw[B4Y (xs:=fr) (f:=j7 nn) (k:=k) 0 (by omega)];exact A7L (xs:=fr) (f:=j7 nn) (k:=k) 0 (by omega)⟩|exact A7L (xs:=fr) (f:=j7 nn) (k:=k) 0 (by omega)
   ·
    first|(simp only[];omega)|omega|(simp;omega)
  intro c0;refine C2 ?_;simp only[go_sem];refine hK3 _ ?_;refine oS fun _ hK10=>?_;refine oS fun _ hK11=>?_;refine oW M1 ?_;simp only[go_sem];repeat(with_reducible refine oA ?_)
  refine hK11 _ ?_;refine oC rfl ?_ ?_
  ·
   intro c1;refine oW M1 ?_;simp (maxSteps:=2000000)only[go_sem];repeat(with_reducible refine oA ?_)
   refine hK10 _ ?_;refine oS fun _ hK12=>?_;refine oW M1 ?_;simp only[go_sem];repeat(with_reducible refine oA ?_)
   refine hK12 _ ?_;refine A2 ?_;simp only[hres,go_sem]
   first
    | exact oF
    | refine ⟨?_, oF⟩
      have hk2:k=fr.length:=by omega
      clear hK1 hK2 hK3 hK4 hL5 hK6 hK7 hK10 hK11 hK12;subst hk2
      simp_all [M2,j7]
  intro c1;refine A3 ?_;simp only[go_sem];refine hK10 _ ?_;refine oS fun _ hK13=>?_;refine oW M1 ?_;simp only[go_sem];repeat(with_reducible refine oA ?_)
  refine hK13 _ ?_;refine A2 ?_;simp only[hres,go_sem]
  first
   | exact oF
   | refine ⟨?_, oF⟩
     have hk2:k=fr.length:=by omega
     clear hK1 hK2 hK3 hK4 hL5 hK6 hK7 hK10 hK11 hK13;subst hk2
     simp_all [M2,j7]
def A0z:F8:=fun f=>if f=34 then some (.p Y7) else A8f f
theorem D7:B8 Tryz.prog A0z:=F9 A8j (B6 Tryz.func34 rfl (by decide)) M1
attribute [go_sem] A0z Y7
end Go.Proofs.YtflobmmbhaofbaaGreat
