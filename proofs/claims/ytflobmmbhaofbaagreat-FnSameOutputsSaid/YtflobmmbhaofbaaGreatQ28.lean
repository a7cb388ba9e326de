/-
  Texts of this claim, joined (part 28). No condition beyond those of the theorems.
-/
import Derived.Test.YtflobmmbhaofbaaGreatQ25
import Derived.Test.YtflobmmbhaofbaaGreatQ18
namespace Go.Proofs.YtflobmmbhaofbaaGreat
open Go.RowKit
set_option linter.unusedSimpArgs false
set_option linter.unusedVariables false
set_option maxRecDepth 100000
set_option maxHeartbeats 8000000
def A04:GCon where
  ps:=[.ow 0,.val (.int .i64),.val (.int .i64)]
  os:=[.row 2 (.int .i64)]
  c:=fun _=>True
  r:=fun _=>.tup []
  o:=fun x=>[(30,.row 2 (.int .i64) (A5A x.1.2.1 x.1.2.2.1 x.2.1) [])]
  ok:=by
    rintro⟨⟨_,(aa:Int),(bb:Int),_⟩,⟨(xs:List Int),_⟩⟩
    exact⟨rfl,rfl,by decide⟩
theorem B5L:W3 Tryz.prog 121 A04:=by
  refine D8 Tryz.func121 rfl ?_
  have hres:Tryz.f121.results.toList=[]:=rfl
  rintro⟨⟨_,(aa:Int),(bb:Int),_⟩,⟨(xs:List Int),_⟩⟩ hc hL hO
  simp only[A04,go_sem] at hL
  simp only[A04,go_sem] at hO
  simp only[A04,St.init,St.initG,Tryz.ntmps121,go_sem] 
  refine oS fun _ hK1=>?_;refine oW A3p ?_;simp only[go_sem];refine hK1 _ ?_;refine A5 ?_;refine B4 (ι:={ k:Nat // k≤xs.length }) (fun k=>⟨[.c (.ow 30),.c (.sc (.int .i64 (aa))),.c (.sc (.int .i64 (bb))),zz,zz,zz,.c (.sc (.int .i64 (k.1))),zz,zz,zz,zz,zz,zz,zz,zz,zz,zz,zz,zz,zz,zz,zz,zz],[(30,.row 2 (.int .i64) (((xs.take k.1).map (A4y aa bb)++xs.drop k.1)) [])]⟩) (fun k=>xs.length - k.1) ⟨0,by simp⟩ ?_ ?_
  ·
   refine oK ?_;simp (maxSteps:=2000000)only[go_sem];all_goals((repeat' refine And.intro ?_ ?_)<;>first|rfl|(congr 1;done)|(simp;done))
  rintro⟨k,hk⟩ K2 hL2
  have hml:((xs.take k).map (A4y aa bb)++xs.drop k).length=xs.length:=A4c
  have hma:k < xs.length→((xs.take k).map (A4y aa bb)++xs.drop k).getD k 0=xs.getD k 0:=fun h=>B4Y 0 h
  refine oS fun _ hK3=>?_;refine oS fun _ hK4=>?_;refine oW A3p ?_;simp only[hml,go_sem];refine hK4 _ ?_;refine oC rfl ?_ ?_
  ·
   intro c0;have hkl:k < xs.length:=by omega
   have hma:=hma hkl
   refine A3 ?_;simp only[go_sem];refine hK3 _ ?_;refine oS fun _ hK5=>?_;refine A5 ?_;refine oS fun _ hK6=>?_;refine oW A3p ?_;simp (maxSteps:=2000000)only[hma,hml,go_sem];repeat(with_reducible first|refine oA ?_|refine And.intro (by first|omega) ?_)
   refine hK6 _ ?_;refine oC rfl ?_ ?_
   ·
    intro c1;have he:A4y aa bb (xs.getD k 0)=bb:=by unfold A4y Y3;rw[decide_eq_true (by assumption)]
    have hnx:=A7L (f:=A4y aa bb) (xs:=xs) (k:=k) 0 hkl
    rw[he] at hnx;refine oW A3p ?_;simp (maxSteps:=2000000)only[hml,go_sem];repeat(with_reducible first|refine oA ?_|refine And.intro (by first|omega) ?_)
    refine hK5 _ ?_;refine oW A3p ?_;simp only[go_sem];refine hL2 ⟨k+1,by omega⟩ _ (oK ?_) ?_
    ·
     simp (maxSteps:=2000000)only[go_sem];all_goals((repeat' refine And.intro ?_ ?_)<;>first|rfl|exact wk (by omega)|exact hnx|(congr 1;exact hnx)|exact hnx.symm|(congr 1;exact hnx.symm)|(congr 1;done))
    ·
     first|(simp only[];omega)|omega|(simp;omega)
   intro c1;have he:A4y aa bb (xs.getD k 0)=xs.getD k 0:=by unfold A4y Y3;rw[decide_eq_false (by assumption)]
   have hnx:=B8r (f:=A4y aa bb) (xs:=xs) (k:=k) hkl he
   refine A3 ?_;simp only[go_sem];refine hK5 _ ?_;refine oW A3p ?_;simp only[go_sem];refine hL2 ⟨k+1,by omega⟩ _ (oK ?_) ?_
   ·
    simp (maxSteps:=2000000)only[go_sem];all_goals((repeat' refine And.intro ?_ ?_)<;>first|rfl|exact wk (by omega)|exact hnx|(congr 1;exact hnx)|exact hnx.symm|(congr 1;exact hnx.symm)|(congr 1;done))
   ·
    first|(simp only[];omega)|omega|(simp;omega)
  intro c0;have hfin:((xs.take k).map (A4y aa bb)++xs.drop k)=A5A aa bb xs:=by unfold A5A;rw[List.take_of_length_le (by omega),List.drop_of_length_le (by omega),List.append_nil]
  refine C2 ?_;simp only[go_sem];simp (maxSteps:=2000000)only[hres,go_sem];first|exact oG|(refine⟨oG,?_⟩;(repeat' refine And.intro ?_ ?_)<;>first|rfl|(congr 1;exact hfin)|exact hfin|(congr 2;exact hfin))
def A6J:F8:=fun f=>if f=121 then some (.g A04) else T0 f
theorem X4:B8 Tryz.prog A6J:=a8 B5L (B6 Tryz.func121 rfl (by decide)) A3p
attribute [go_sem] A6J A04
def X5:GCon where
  ps:=[.po 0,.val (.int .i64),.val (.int .i64)]
  os:=[.box [.rd (.int .i64),.ow 1,.ow 2,.ow 3],.tree 26 (.row 2 (.int .i64)),.tree 56 ((.prod (.int .i64) (.prod (.int .i64) (.prod (.int .i64) (.row 2 (.int .i64)))))),.row 2 (.int .i64)]
  c:=fun _=>True
  r:=fun _=>.tup []
  o:=fun x=>[(30,.box [.sc (.int .i64 (x.2.1.1)),.ow 31,.ow 32,.ow 33]),(31,.tree 26 (.row 2 (.int .i64)) (x.2.2.1) none),(32,.tree 56 ((.prod (.int .i64) (.prod (.int .i64) (.prod (.int .i64) (.row 2 (.int .i64)))))) (List.map (A2M x.1.2.1 x.1.2.2.1) x.2.2.2.1) none),(33,.row 2 (.int .i64) (A5A x.1.2.1 x.1.2.2.1 x.2.2.2.2.1) [])]
  ok:=by
    rintro⟨⟨_,(aa:Int),(bb:Int),_⟩,⟨⟨(pi:Int),_⟩,(ts:List (List Int)),(ns:List A4),(os:List Int),_⟩⟩
    exact⟨rfl,rfl,by decide⟩
theorem A9R:W3 Tryz.prog 101 X5:=by
  refine D8 Tryz.func101 rfl ?_
  have hres:Tryz.f101.results.toList=[]:=rfl
  rintro⟨⟨_,(aa:Int),(bb:Int),_⟩,⟨⟨(pi:Int),_⟩,(ts:List (List Int)),(ns:List A4),(os:List Int),_⟩⟩ hc hL hO
  simp only[X5,go_sem] at hL
  simp only[X5,go_sem] at hO
  simp only[X5,St.init,St.initG,Tryz.ntmps101,go_sem] 
  refine oS fun _ hK1=>?_;refine oS fun _ hK2=>?_;refine oW X4 ?_;simp only[go_sem];refine hK2 _ ?_;refine A5 ?_;refine B4 (ι:={ k:Nat // k≤ns.length }) (fun k=>⟨[.c (.po 30 0),.c (.sc (.int .i64 (aa))),.c (.sc (.int .i64 (bb))),zz,zz,zz,.c (.sc (.int .i64 (k.1))),zz,zz,zz,zz,zz,zz,zz,zz,zz,zz,zz,zz,zz,zz,zz,zz,zz,zz,zz,zz,zz,zz,zz,zz,zz,zz,zz],[(30,.box [.sc (.int .i64 (pi)),.ow 31,.ow 32,.ow 33]),(31,.tree 26 (.row 2 (.int .i64)) (ts) none),(32,.tree 56 ((.prod (.int .i64) (.prod (.int .i64) (.prod (.int .i64) (.row 2 (.int .i64)))))) (((ns.take k.1).map (A2M aa bb)++ns.drop k.1)) none),(33,.row 2 (.int .i64) (os) [])]⟩) (fun k=>ns.length - k.1) ⟨0,by simp⟩ ?_ ?_
  ·
   refine oK ?_;simp (maxSteps:=2000000)only[go_sem];all_goals((repeat' refine And.intro ?_ ?_)<;>first|rfl|(congr 1;done)|(simp;done))
  rintro⟨k,hk⟩ K3 hL3
  have hml:((ns.take k).map (A2M aa bb)++ns.drop k).length=ns.length:=B2d
  have hma:k < ns.length→((ns.take k).map (A2M aa bb)++ns.drop k).getD k ((0,0,0,[]):A4)=ns.getD k ((0,0,0,[]):A4):=fun h=>C2h _ h
  have hnx:=fun h=>C0A (f:=A2M aa bb) (xs:=ns) (k:=k) ((0,0,0,[]):A4) h
  refine oS fun _ hK4=>?_;refine oS fun _ hK5=>?_;refine oW X4 ?_;simp (maxSteps:=2000000)only[hml,go_sem];repeat(with_reducible refine oA ?_)
  refine hK5 _ ?_;refine oC rfl ?_ ?_
  ·
   intro c0;have hkl:k < ns.length:=by omega
   have hma:=hma hkl
   refine A3 ?_;simp only[go_sem];refine hK4 _ ?_;refine oS fun _ hK6=>?_;refine A5 ?_;refine oW X4 ?_;simp (maxSteps:=2000000)only[hma,hml,go_sem];repeat(with_reducible first|refine oA ?_|refine And.intro (by first|omega|exact True.intro|exact⟨by omega,True.intro⟩) ?_)
   refine hK6 _ ?_;refine oW X4 ?_;simp only[go_sem];refine hL3 ⟨k+1,by omega⟩ _ (oK ?_) ?_
   ·
    simp (maxSteps:=2000000)only[go_sem];all_goals((repeat' refine And.intro ?_ ?_)<;>first|rfl|exact wk (by omega)|exact hnx (by omega)|(congr 1;exact hnx (by omega))|(congr 1;done))
   ·
    first|(simp only[];omega)|omega|(simp;omega)
  intro c0;have hfin:((ns.take k).map (A2M aa bb)++ns.drop k)=ns.map (A2M aa bb):=by rw[List.take_of_length_le (by omega),List.drop_of_length_le (by omega),List.append_nil]
  refine C2 ?_;simp only[go_sem];refine hK1 _ ?_;refine oW X4 ?_;simp (maxSteps:=2000000)only[List.nodup_cons,List.nodup_nil,List.not_mem_nil,not_false_eq_true,go_sem];repeat(with_reducible first|refine oA ?_|refine And.intro (by first|exact True.intro) ?_)
  simp (maxSteps:=2000000)only[hres,go_sem];first|exact oG|(refine⟨oG,?_⟩;(repeat' refine And.intro ?_ ?_)<;>first|rfl|exact hfin|(congr 1;done)|(congr 1;exact hfin)|(congr 2;done))
def A26:F8:=fun f=>if f=101 then some (.g X5) else A6J f
theorem A76:B8 Tryz.prog A26:=a8 A9R (B6 Tryz.func101 rfl (by decide)) X4
attribute [go_sem] A26 X5
end Go.Proofs.YtflobmmbhaofbaaGreat
