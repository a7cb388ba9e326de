/-
  Texts of this claim, joined (part 45). No condition beyond those of the theorems.
-/
import Derived.Test.YtflobmmbhaofbaaGreatQ44
namespace Go.Proofs.YtflobmmbhaofbaaGreat
open Go.RowKit
set_option linter.unusedSimpArgs false
set_option linter.unusedVariables false
set_option maxRecDepth 100000
set_option maxHeartbeats 4000000
def A57:Con:=⟨[.val ((.row 28 (.prod (.int .i64) (.prod (.row 26 (.row 2 (.int .i64))) (.prod (.row 56 (.prod (.int .i64) (.prod (.int .i64) (.prod (.int .i64) (.row 2 (.int .i64)))))) (.row 2 (.int .i64)))))))],[⟨(.prod (.row 26 (.row 2 (.int .i64))) (.prod (.row 56 (.prod (.int .i64) (.prod (.int .i64) (.prod (.int .i64) (.row 2 (.int .i64)))))) (.row 2 (.int .i64)))),true⟩],fun x=>B2Q x.1,fun x=>J1 x.1⟩
theorem B9V:D4 Tryz.prog 14 A57:=by
  refine A7 Tryz.func14 rfl ?_
  have hres:Tryz.f14.results.toList=[.cell 2 45]:=rfl
  rintro⟨(ps:List A6),_⟩ hc hL
  simp only[A57,go_sem] at hL
  simp only[A57,St.init,St.initG,Tryz.ntmps14,go_sem] 
  obtain⟨hx,hy⟩:=(show B2Q ps from hc)
  refine oS fun _ hK1=>?_;refine oW D7 ?_;simp only[go_sem];refine hK1 _ ?_;refine oS fun _ hK2=>?_;refine oW D7 ?_;simp only[go_sem];repeat(with_reducible refine oA ?_)
  refine hK2 _ ?_;refine oS fun _ hK3=>?_;refine oS fun _ hK4=>?_;refine oW D7 ?_;simp only[go_sem];refine hK4 _ ?_;refine A5 ?_;refine Q1 (l5 _ 148 0 9001 26 ((.row 2 (.int .i64))) (by decide)) ?_;simp (maxSteps:=2000000)only[go_sem];refine Q1 (l5 _ 148 1 9002 56 ((.prod (.int .i64) (.prod (.int .i64) (.prod (.int .i64) (.row 2 (.int .i64)))))) (by decide)) ?_;simp (maxSteps:=2000000)only[go_sem];refine Q1 (l5 _ 148 2 9003 2 (.int .i64) (by decide)) ?_;simp (maxSteps:=2000000)only[go_sem];refine B4 (ι:={ k:Nat // k≤ps.length }) (fun k=>⟨[zz,zz,.c (.po 132 0),.c (.po 148 0),zz,zz,zz,zz,zz,zz,zz,zz,zz,.c (.rd [] 28 ((.prod (.int .i64) (.prod (.row 26 (.row 2 (.int .i64))) (.prod (.row 56 (.prod (.int .i64) (.prod (.int .i64) (.prod (.int .i64) (.row 2 (.int .i64)))))) (.row 2 (.int .i64)))))) (ps)),.c (.sc (.int .i64 (ps.length))),.c (.sc (.int .i64 (k.1))),zz,zz,zz,zz,zz,zz,zz,zz,zz,zz,zz,zz,zz,zz,zz,zz,zz,zz,zz,zz,zz,zz,zz,zz,zz,zz,zz,zz,zz,zz,zz,zz,zz,zz,zz,zz,zz,zz,zz,zz,zz,zz,zz,zz,zz,zz,zz,zz,zz,zz,zz],[(132,.box [.sc (.slice none 0 0),.sc (.slice none 0 0),.sc (.slice none 0 0)]),(148,.box [.ow 9001,.ow 9002,.ow 9003]),(9001,.tree 26 (.row 2 (.int .i64)) ((J1 (ps.take k.1)).1) none),(9002,.tree 56 (.prod (.int .i64) (.prod (.int .i64) (.prod (.int .i64) (.row 2 (.int .i64))))) ((J1 (ps.take k.1)).2.1) none),(9003,.row 2 (.int .i64) ((J1 (ps.take k.1)).2.2) [])]⟩) (fun k=>ps.length - k.1) ⟨0,by simp⟩ ?_ ?_
  ·
   refine oK ?_;simp (maxSteps:=2000000)only[go_sem];all_goals(first|rfl|((repeat' refine And.intro ?_ ?_)<;>first|rfl|simp))
  rintro⟨k,hk⟩ K5 hL5
  obtain⟨u1,u2,u3⟩:=B5O hy k hk
  have hsm:k < ps.length→A4Q (ps.getD k ((0,[],[],[]):A6)):=fun h=>hy _ (B9 h)
  have hnx:k < ps.length→J1 (ps.take (k+1))=B3N (J1 (ps.take k)) (ps.getD k ((0,[],[],[]):A6)):=fun h=>A6o _ h
  refine oS fun _ hK6=>?_;refine oW D7 ?_;simp only[go_sem];refine hK6 _ ?_;refine oS fun _ hK7=>?_;refine oC rfl ?_ ?_
  ·
   intro c0;have hS:A4Q (ps.getD k ((0,[],[],[]):A6)):=hsm (by omega)
   obtain⟨s1,s2,s3,s4,s5⟩:=id hS
   refine A3 ?_;simp only[go_sem];refine hK7 _ ?_;refine oS fun _ hK8=>?_;refine A5 ?_;refine oS fun _ hK9=>?_;refine oW D7 ?_;simp only[go_sem];repeat(with_reducible refine oA ?_)
   refine hK9 _ ?_;refine oS fun _ hK10=>?_
   refine oR D7
     [[],[0],[0,1],[],[3],[0,1,2,3,4],[0,1,2,3,4,5],[0,1,2,3,4,5,6]]
     [[],[],[],[],[],[],[],[]]
     [[],[],[],[],[],[],[],[]] (by kernel_rfl) (by kernel_rfl) (B7 (acc:=[]) ?_)
   simp (maxSteps:=2000000)only[go_sem];repeat(with_reducible refine oD ?_)
   refine hK10 _ ?_;refine oS fun _ hK11=>?_;refine oS fun _ hK12=>?_;refine oW D7 ?_;simp only[go_sem];repeat(with_reducible refine oA ?_)
   refine hK12 _ ?_;refine A5 ?_;refine B4 (ι:={ m:Nat // m≤(ps.getD k ((0,[],[],[]):A6)).2.2.1.length }) (fun k'=>⟨[zz,zz,.c (.po 132 0),.c (.po 148 0),zz,.c (.po 180 0),.c (.sc (.int .i64 ((J1 (ps.take k)).2.1.length))),.c (.sc (.int .i64 ((J1 (ps.take k)).1.length))),zz,zz,zz,zz,zz,.c (.rd [] 28 ((.prod (.int .i64) (.prod (.row 26 (.row 2 (.int .i64))) (.prod (.row 56 (.prod (.int .i64) (.prod (.int .i64) (.prod (.int .i64) (.row 2 (.int .i64)))))) (.row 2 (.int .i64)))))) (ps)),.c (.sc (.int .i64 (ps.length))),.c (.sc (.int .i64 (k))),zz,zz,zz,zz,zz,zz,zz,zz,zz,zz,.c (.rd [] 56 ((.prod (.int .i64) (.prod (.int .i64) (.prod (.int .i64) (.row 2 (.int .i64)))))) ((ps.getD k ((0,[],[],[]):A6)).2.2.1)),.c (.sc (.int .i64 ((ps.getD k ((0,[],[],[]):A6)).2.2.1.length))),.c (.sc (.int .i64 (k'.1))),zz,zz,zz,zz,zz,zz,zz,zz,zz,zz,zz,zz,zz,zz,zz,zz,zz,zz,zz,zz,zz,zz,zz,zz,zz,zz,zz,zz,zz,zz,zz,zz,zz,zz,zz,zz,zz,zz],[(132,.box [.sc (.slice none 0 0),.sc (.slice none 0 0),.sc (.slice none 0 0)]),(148,.box [.ow 9001,.ow 9002,.ow 9003]),(9001,.tree 26 (.row 2 (.int .i64)) ((J1 (ps.take k)).1) none),(9002,.tree 56 (.prod (.int .i64) (.prod (.int .i64) (.prod (.int .i64) (.row 2 (.int .i64))))) ((J1 (ps.take k)).2.1++((ps.getD k ((0,[],[],[]):A6)).2.2.1.take k'.1).map (M2 (J1 (ps.take k)).2.1.length (J1 (ps.take k)).1.length)) none),(9003,.row 2 (.int .i64) ((J1 (ps.take k)).2.2) []),(180,.box [.sc (.int .i64 ((ps.getD k ((0,[],[],[]):A6)).1)),.rd [] 26 ((.row 2 (.int .i64))) ((ps.getD k ((0,[],[],[]):A6)).2.1),.rd [] 56 ((.prod (.int .i64) (.prod (.int .i64) (.prod (.int .i64) (.row 2 (.int .i64)))))) ((ps.getD k ((0,[],[],[]):A6)).2.2.1),.rd [] 2 (.int .i64) ((ps.getD k ((0,[],[],[]):A6)).2.2.2)])]⟩) (fun k'=>(ps.getD k ((0,[],[],[]):A6)).2.2.1.length - k'.1) ⟨0,by simp⟩ ?_ ?_
   ·
    refine oK ?_;simp (maxSteps:=2000000)only[go_sem];all_goals(first|rfl|((repeat' refine And.intro ?_ ?_)<;>first|rfl|simp))
   rintro⟨m,hm⟩ K13 hL13
   have hfm:m < (ps.getD k ((0,[],[],[]):A6)).2.2.1.length→((ps.getD k ((0,[],[],[]):A6)).2.2.1.getD m ((0,0,0,[]):A4)).2.2.2.length≤23:=fun h=>s4 _ (B9 h)
   have hml:(List.map (M2 (J1 (ps.take k)).2.1.length (J1 (ps.take k)).1.length) ((ps.getD k ((0,[],[],[]):A6)).2.2.1.take m)).length≤24:=by rw[List.length_map,List.length_take];omega
   refine oS fun _ hK14=>?_;refine oW D7 ?_;simp only[go_sem];refine hK14 _ ?_;refine oS fun _ hK15=>?_;refine oC rfl ?_ ?_
   ·
    intro c1;refine A3 ?_;simp only[go_sem];refine hK15 _ ?_;refine oS fun _ hK16=>?_;refine A5 ?_;refine oS fun _ hK17=>?_;refine oW D7 ?_;simp only[go_sem];repeat(with_reducible refine oA ?_)
    refine hK17 _ ?_
    refine oR D7
      [[],[0],[],[],[],[2,3,4],[2,3,4,5],[0,1,2,3,4,5,6],[0,1,2,3,4,5,6,7],[0,1,2,3,4,5,6,7,8]]
      [[692,693,694,695,696,697,698,699,700,701,702,703,704,705,706,707,708],[692,693,694,695,696,697,698,699,700,701,702,703,704,705,706,707,708],[],[],[],[],[],[],[],[]]
      [[],[],[],[],[],[692,693,694,695,696,697,698,699,700,701,702,703,704,705,706,707],[692,693,694,695,696,697,698,699,700,701,702,703,704,705,706,707,708],[],[],[]] (by kernel_rfl) (by kernel_rfl) (B7 (acc:=[]) ?_)
    simp (maxSteps:=2000000)only[List.nodup_cons,List.nodup_nil,List.not_mem_nil,not_false_eq_true,go_sem];repeat(with_reducible refine oD ?_)
    refine hK16 _ ?_;refine oW D7 ?_;simp only[go_sem];refine hL13 ⟨m+1,by omega⟩ _ (oK ?_) ?_
    ·
     simp (maxSteps:=2000000)only[go_sem];all_goals((repeat' refine And.intro ?_ ?_)<;>first|rfl|exact wk (by omega)|exact A3P ((0,0,0,[]):A4) (by omega)|(congr 1;done)|(congr 1;exact A3P ((0,0,0,[]):A4) (by omega))|fail)
    ·
     first|(simp only[];omega)|omega|(simp;omega)
   intro c1;refine C2 ?_;simp only[go_sem];refine hK11 _ ?_;refine oS fun _ hK18=>?_
   refine oR D7
     [[],[0],[],[2],[2,3],[0,1,2,3,4],[0,1,2,3,4,5],[0,1,2,3,4,5,6]]
     [[836,837,838,839,840,841,842,843,844,845,846,847,848,849,850,851],[836,837,838,839,840,841,842,843,844,845,846,847,848,849,850,851],[],[],[],[],[],[]]
     [[],[],[],[],[836,837,838,839,840,841,842,843,844,845,846,847,848,849,850,851],[],[],[]] (by kernel_rfl) (by kernel_rfl) (B7 (acc:=[]) ?_)
   simp (maxSteps:=2000000)only[List.nodup_cons,List.nodup_nil,List.not_mem_nil,not_false_eq_true,go_sem];repeat(with_reducible first|refine oD ?_|refine And.intro (by first|exact A6q hS) ?_)
   refine hK18 _ ?_;refine oS fun _ hK19=>?_;refine oW D7 ?_;simp only[go_sem];repeat(with_reducible refine oA ?_)
   refine hK19 _ ?_;refine A5 ?_;refine B4 (ι:={ m:Nat // m≤(ps.getD k ((0,[],[],[]):A6)).2.2.2.length }) (fun k'=>⟨[zz,zz,.c (.po 132 0),.c (.po 148 0),zz,zz,.c (.sc (.int .i64 ((J1 (ps.take k)).2.1.length))),zz,zz,zz,zz,zz,zz,.c (.rd [] 28 ((.prod (.int .i64) (.prod (.row 26 (.row 2 (.int .i64))) (.prod (.row 56 (.prod (.int .i64) (.prod (.int .i64) (.prod (.int .i64) (.row 2 (.int .i64)))))) (.row 2 (.int .i64)))))) (ps)),.c (.sc (.int .i64 (ps.length))),.c (.sc (.int .i64 (k))),zz,zz,zz,zz,zz,zz,zz,zz,zz,zz,zz,zz,zz,zz,zz,zz,zz,zz,zz,zz,zz,zz,zz,zz,zz,zz,zz,zz,zz,zz,zz,zz,zz,zz,.c (.rd [] 2 (.int .i64) ((ps.getD k ((0,[],[],[]):A6)).2.2.2)),.c (.sc (.int .i64 ((ps.getD k ((0,[],[],[]):A6)).2.2.2.length))),.c (.sc (.int .i64 (k'.1))),zz,zz,zz,zz,zz,zz,zz,zz,zz,zz,zz,zz,zz,zz],[(132,.box [.sc (.slice none 0 0),.sc (.slice none 0 0),.sc (.slice none 0 0)]),(148,.box [.ow 9001,.ow 9002,.ow 9003]),(9001,.tree 26 (.row 2 (.int .i64)) ((J1 (ps.take k)).1++(ps.getD k ((0,[],[],[]):A6)).2.1) none),(9002,.tree 56 (.prod (.int .i64) (.prod (.int .i64) (.prod (.int .i64) (.row 2 (.int .i64))))) ((J1 (ps.take k)).2.1++(ps.getD k ((0,[],[],[]):A6)).2.2.1.map (M2 (J1 (ps.take k)).2.1.length (J1 (ps.take k)).1.length)) none),(9003,.row 2 (.int .i64) ((J1 (ps.take k)).2.2++((ps.getD k ((0,[],[],[]):A6)).2.2.2.take k'.1).map (j7 (J1 (ps.take k)).2.1.length)) [])]⟩) (fun k'=>(ps.getD k ((0,[],[],[]):A6)).2.2.2.length - k'.1) ⟨0,by simp⟩ ?_ ?_
   ·
    refine oK ?_;simp (maxSteps:=2000000)only[go_sem];all_goals((repeat' refine And.intro ?_ ?_)<;>first|rfl|exact B6h (by omega)|(congr 1;done)|(congr 1;exact B6h (by omega))|fail)
   rintro⟨m,hm⟩ K20 hL20
   have hml:(List.map (j7 (J1 (ps.take k)).2.1.length) ((ps.getD k ((0,[],[],[]):A6)).2.2.2.take m)).length≤4:=by rw[List.length_map,List.length_take];omega
   refine oS fun _ hK21=>?_;refine oW D7 ?_;simp only[go_sem];refine hK21 _ ?_;refine oS fun _ hK22=>?_;refine oC rfl ?_ ?_
   ·
    intro c2;refine A3 ?_;simp only[go_sem];refine hK22 _ ?_;refine oS fun _ hK23=>?_;refine A5 ?_;refine oS fun _ hK24=>?_;refine oW D7 ?_;simp only[go_sem];repeat(with_reducible refine oA ?_)
    refine hK24 _ ?_;refine oW D7 ?_;simp (maxSteps:=2000000)only[go_sem];repeat(with_reducible refine oA ?_)
    refine hK23 _ ?_;refine oW D7 ?_;simp only[go_sem];refine hL20 ⟨m+1,by omega⟩ _ (oK ?_) ?_
    ·
     simp (maxSteps:=2000000)only[go_sem];all_goals((repeat' refine And.intro ?_ ?_)<;>first|rfl|exact wk (by omega)|exact A3P (0:Int) (by omega)|(congr 1;exact A3P (0:Int) (by omega))|fail)
    ·
     first|(simp only[];omega)|omega|(simp;omega)
   intro c2;refine C2 ?_;simp only[go_sem];refine hK8 _ ?_;refine oW D7 ?_;simp only[go_sem];refine hL5 ⟨k+1,by omega⟩ _ (oK ?_) ?_
   ·
    simp (maxSteps:=2000000)only[go_sem];have hq:=hnx (by omega)
    all_goals((repeat' refine And.intro ?_ ?_)<;>first|rfl|exact wk (by omega)|(congr 1;rw[hq];rfl)|(rw[hq];rfl)|(rw[hq,List.take_of_length_le (l:=(ps.getD k ((0,[],[],[]):A6)).2.2.2) (i:=m) (by omega)];rfl)|(congr 1;done))
   ·
    first|(simp only[];omega)|omega|(simp;omega)
  intro c0;refine C2 ?_;simp only[go_sem];refine hK3 _ ?_;refine oS fun _ hK25=>?_;refine oW D7 ?_;simp only[go_sem];repeat(with_reducible refine oA ?_)
  refine hK25 _ ?_;refine A2 ?_;simp only[hres,go_sem];first|exact oF|(refine⟨?_,oF⟩;exact congrArg J1 (List.take_of_length_le (by omega)))
def B0l:F8:=fun f=>if f=14 then some (.p A57) else A0z f
theorem B62:B8 Tryz.prog B0l:=F9 B9V (B6 Tryz.func14 rfl (by decide)) D7
attribute [go_sem] B0l A57
end Go.Proofs.YtflobmmbhaofbaaGreat
