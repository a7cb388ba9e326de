/-
  Texts of this claim, joined (part 38). No condition beyond those of the theorems.
-/
import Derived.Test.YtgaogcnfijbahaaGreatQ37
namespace Go.Proofs.YtgaogcnfijbahaaGreat
open Go.RowKit
set_option linter.unusedSimpArgs false
set_option linter.unusedVariables false
set_option maxRecDepth 100000
set_option maxHeartbeats 8000000
def A0t:Con:=⟨[.val ((.row 26 (.row 2 (.int .i64))))],[⟨(.row 2 (.int .i64)),true⟩],fun x=>A7S x.1,fun x=>chN x.1 x.1.length⟩
theorem B51:C9 Tryz.prog 43 A0t:=by
  refine A4 Tryz.func43 rfl ?_
  have hres:Tryz.f43.results.toList=[.tmp 2]:=rfl
  rintro⟨(aa:List (List Int)),_⟩ hc hL
  simp only[A0t,go_sem] at hL
  simp only[A0t,St.init,St.initG,Tryz.ntmps43,go_sem] 
  have hSq:A7S aa:=hc
  have hal:aa.length≤1000:=hSq.2
  refine oS fun _ hK1=>?_;refine oW C5 ?_;simp only[go_sem];refine hK1 _ ?_;refine oS fun _ hK2=>?_;refine oW C5 ?_;simp only[List.nodup_nil,go_sem];repeat(with_reducible refine oA ?_)
  refine hK2 _ ?_;refine oS fun _ hK3=>?_;refine oS fun _ hK4=>?_;refine oW C5 ?_;simp only[go_sem];refine hK4 _ ?_;refine A1 ?_;refine A7 (ι:={ k:Nat // k≤aa.length }) (fun k=>⟨(.c (.rd [] 26 (.row 2 (.int .i64)) (aa))::zz::zz::.c (.ow 9003)::zz::zz::zz::zz::zz::zz::zz::zz::zz::zz::zz::zz::zz::.c (.sc (.int .i64 (aa.length)))::.c (.sc (.int .i64 (k.1)))::zz::zz::zz::zz::zz::zz::zz::zz::zz::zz::zz::zz::zz::zz::zz::zz::zz::zz::zz::zz::zz::zz::zz::zz::zz::zz::zz::zz::zz::zz::zz::zz::zz::zz::zz::zz::zz::zz::zz::zz::zz::zz::zz::zz::zz::zz::zz::zz::zz::zz::zz::zz::zz::zz::zz::zz::zz::zz::zz::zz::zz::zz::zz::zz::zz::zz::zz::zz::zz::zz::zz::zz::zz::zz::zz::zz::zz::zz::zz::zz::zz::zz::zz::zz::zz::zz::zz::zz::zz::zz::zz::zz::zz::zz::zz::zz::zz::zz::zz::zz::zz::zz::zz::zz::zz::[]),[(9003,.row 2 (.int .i64) (chN aa k.1) [])]⟩) (fun k=>aa.length - k.1) ⟨0,by simp⟩ ?_ ?_
  ·
   refine oK ?_;simp (maxSteps:=2000000)only[go_sem];all_goals((repeat' refine And.intro ?_ ?_)<;>first|rfl|exact(C6b aa).symm|(congr 1;exact(C6b aa).symm)|(congr 1;done)|(simp;done))
  rintro⟨k,hk⟩ K5 hL5
  refine oS fun _ hK6=>?_;refine oW C5 ?_;simp only[go_sem];refine hK6 _ ?_;refine oS fun _ hK7=>?_;refine oC rfl ?_ ?_
  ·
   intro c0;have hrk:(aa.getD k []).length=aa.length:=(hSq.1.2 k (by omega)).1
   have hwk1:IntKind.i64.wrap ((k:Int)+1)=(k:Int)+1:=F3 (by omega)
   refine A2 ?_;simp only[go_sem];refine hK7 _ ?_;refine oS fun _ hK8=>?_;refine A1 ?_;refine oS fun _ hK9=>?_;refine oW C5 ?_;simp only[go_sem];refine hK9 _ ?_;refine oS fun _ hK10=>?_;refine oW C5 ?_;simp (maxSteps:=2000000)only[List.nodup_nil,F5,Int.zero_sub,go_sem];repeat(with_reducible first|refine oA ?_|refine And.intro (by first|omega) ?_)
   refine hK10 _ ?_;refine oS fun _ hK11=>?_;refine oW C5 ?_;simp only[List.nodup_nil,go_sem];repeat(with_reducible refine oA ?_)
   refine hK11 _ ?_;refine oS fun _ hK12=>?_;refine oS fun _ hK13=>?_;refine oW C5 ?_;simp only[go_sem];refine hK13 _ ?_;refine A1 ?_;refine A7 (ι:={ i:Nat // i≤k }) (fun k'=>⟨(.c (.rd [] 26 (.row 2 (.int .i64)) (aa))::zz::zz::.c (.ow 9003)::.c (.sc (.int .i64 (k)))::.c (.ow 9005)::.c (.ow 9006)::.c (.sc (.int .i64 (k'.1)))::zz::zz::zz::zz::zz::zz::zz::zz::zz::.c (.sc (.int .i64 (aa.length)))::.c (.sc (.int .i64 (k)))::zz::zz::zz::zz::zz::zz::zz::zz::zz::zz::zz::zz::zz::zz::zz::zz::zz::zz::zz::zz::zz::zz::zz::zz::zz::zz::zz::zz::zz::zz::zz::zz::zz::zz::zz::zz::zz::zz::zz::zz::zz::zz::zz::zz::zz::zz::zz::zz::zz::zz::zz::zz::zz::zz::zz::zz::zz::zz::zz::zz::zz::zz::zz::zz::zz::zz::zz::zz::zz::zz::zz::zz::zz::zz::zz::zz::zz::zz::zz::zz::zz::zz::zz::zz::zz::zz::zz::zz::zz::zz::zz::zz::zz::zz::zz::zz::zz::zz::zz::zz::zz::zz::zz::zz::zz::[]),[(9003,.row 2 (.int .i64) (chN aa k) []),(9005,.row 2 (.int .i64) (fsN aa k 0) []),(9006,.row 2 (.int .i64) (c0N aa k k'.1) [])]⟩) (fun k'=>k - k'.1) ⟨0,by simp⟩ ?_ ?_
   ·
    refine oK ?_;simp (maxSteps:=2000000)only[go_sem];all_goals((repeat' refine And.intro ?_ ?_)<;>first|rfl|exact(C6j aa k).symm|(congr 1;exact(C6j aa k).symm)|(congr 1;done)|(simp;done))
   rintro⟨i,hi⟩ K14 hL14
   have hcl:=C6I aa k i
   refine oS fun _ hK15=>?_;refine oS fun _ hK16=>?_;refine oW C5 ?_;simp only[go_sem];refine hK16 _ ?_;refine oC rfl ?_ ?_
   ·
    intro c1;have hri:(aa.getD i []).length=aa.length:=(hSq.1.2 i (by omega)).1
    have hcn:=C40 aa k i
    refine A2 ?_;simp only[go_sem];refine hK15 _ ?_;refine oS fun _ hK17=>?_;refine A1 ?_;refine oW C5 ?_;simp (maxSteps:=2000000)only[hcl,go_sem];repeat(with_reducible first|refine oA ?_|refine And.intro (by first|omega) ?_)
    refine hK17 _ ?_;refine oW C5 ?_;simp only[go_sem];refine hL14 ⟨i+1,by omega⟩ _ (oK ?_) ?_
    ·
     simp (maxSteps:=2000000)only[go_sem];all_goals((repeat' refine And.intro ?_ ?_)<;>first|rfl|exact wk (by omega)|exact hcn|(congr 1;exact hcn)|(congr 1;done))
    ·
     first|(simp only[];omega)|omega|(simp;omega)
   intro c1;have hie:i=k:=by omega
   have hce:c0N aa k i=clN aa k 0:=by rw[hie];exact C7b hSq (by omega)
   refine B6 ?_;simp only[go_sem];refine hK12 _ ?_;refine oS fun _ hK18=>?_;refine oS fun _ hK19=>?_;refine oW C5 ?_;simp only[go_sem];refine hK19 _ ?_;refine A1 ?_;refine A7 (ι:={ i:Nat // i≤k }) (fun k'=>⟨(.c (.rd [] 26 (.row 2 (.int .i64)) (aa))::zz::zz::.c (.ow 9003)::.c (.sc (.int .i64 (k)))::.c (.ow 9005)::.c (.ow 9006)::zz::.c (.sc (.int .i64 (k'.1)))::zz::zz::zz::zz::zz::zz::zz::zz::.c (.sc (.int .i64 (aa.length)))::.c (.sc (.int .i64 (k)))::zz::zz::zz::zz::zz::zz::zz::zz::zz::zz::zz::zz::zz::zz::zz::zz::zz::zz::zz::zz::zz::zz::zz::zz::zz::zz::zz::zz::zz::zz::zz::zz::zz::zz::zz::zz::zz::zz::zz::zz::zz::zz::zz::zz::zz::zz::zz::zz::zz::zz::zz::zz::zz::zz::zz::zz::zz::zz::zz::zz::zz::zz::zz::zz::zz::zz::zz::zz::zz::zz::zz::zz::zz::zz::zz::zz::zz::zz::zz::zz::zz::zz::zz::zz::zz::zz::zz::zz::zz::zz::zz::zz::zz::zz::zz::zz::zz::zz::zz::zz::zz::zz::zz::zz::zz::[]),[(9003,.row 2 (.int .i64) (chN aa k) []),(9005,.row 2 (.int .i64) (fsN aa k k'.1) []),(9006,.row 2 (.int .i64) (clN aa k k'.1) [])]⟩) (fun k'=>k - k'.1) ⟨0,by simp⟩ ?_ ?_
   ·
    refine oK ?_;simp (maxSteps:=2000000)only[go_sem];all_goals((repeat' refine And.intro ?_ ?_)<;>first|rfl|exact hce|(congr 1;exact hce)|(congr 1;done)|(simp;done))
   rintro⟨i,hi⟩ K20 hL20
   have hfs:=B8M aa k i
   refine oS fun _ hK21=>?_;refine oS fun _ hK22=>?_;refine oW C5 ?_;simp only[go_sem];refine hK22 _ ?_;refine oC rfl ?_ ?_
   ·
    intro c2;have htl:=B5F hSq (j:=k) (k:=k) (by omega) (by omega)
    have hcll:=B99 aa k i
    have hfn:=C43 aa k i
    have hT1:((aa.getD k []).take k).length≤(clN aa k i).length∧((aa.getD k []).take k).length≤1000000:=⟨by omega,by omega⟩
    refine A2 ?_;simp only[go_sem];refine hK21 _ ?_;refine oS fun _ hK23=>?_;refine A1 ?_;refine oS fun _ hK24=>?_;refine oW C5 ?_;simp (maxSteps:=2000000)only[htl,hfs,F5,Int.zero_sub,go_sem];repeat(with_reducible first|refine oA ?_|refine And.intro (by first|exact hT1|omega) ?_)
    refine hK24 _ ?_;refine oS fun _ hK25=>?_;refine oW C5 ?_;simp only[List.nodup_nil,go_sem];repeat(with_reducible refine oA ?_)
    refine hK25 _ ?_;refine oS fun _ hK26=>?_;refine oS fun _ hK27=>?_;refine oW C5 ?_;simp only[go_sem];refine hK27 _ ?_;refine A1 ?_;refine A7 (ι:={ m:Nat // m≤k }) (fun k''=>⟨(.c (.rd [] 26 (.row 2 (.int .i64)) (aa))::zz::zz::.c (.ow 9003)::.c (.sc (.int .i64 (k)))::.c (.ow 9005)::.c (.ow 9006)::zz::.c (.sc (.int .i64 (i)))::.c (.ow 9009)::.c (.sc (.int .i64 (k''.1)))::zz::zz::zz::zz::zz::zz::.c (.sc (.int .i64 (aa.length)))::.c (.sc (.int .i64 (k)))::zz::zz::zz::zz::zz::zz::zz::zz::zz::zz::zz::zz::zz::zz::zz::zz::zz::zz::zz::zz::zz::zz::zz::zz::zz::zz::zz::zz::zz::zz::zz::zz::zz::zz::zz::zz::zz::zz::zz::zz::zz::zz::zz::zz::zz::zz::zz::zz::zz::zz::zz::zz::zz::zz::zz::zz::zz::zz::zz::zz::zz::zz::zz::zz::zz::zz::zz::zz::zz::zz::zz::zz::zz::zz::zz::zz::zz::zz::zz::zz::zz::zz::zz::zz::zz::zz::zz::zz::zz::zz::zz::zz::zz::zz::zz::zz::zz::zz::zz::zz::zz::zz::zz::zz::zz::[]),[(9003,.row 2 (.int .i64) (chN aa k) []),(9005,.row 2 (.int .i64) (fsN aa k (i+1)) []),(9006,.row 2 (.int .i64) (clN aa k i) []),(9009,.row 2 (.int .i64) (B7h aa k i k''.1) [])]⟩) (fun k''=>k - k''.1) ⟨0,by simp⟩ ?_ ?_
    ·
     refine oK ?_;simp (maxSteps:=2000000)only[go_sem];all_goals((repeat' refine And.intro ?_ ?_)<;>first|rfl|exact hfn|(congr 1;exact hfn)|(congr 1;done)|(simp;done))
    rintro⟨m,hm⟩ K28 hL28
    have hdl:=C3f aa k i m
    refine oS fun _ hK29=>?_;refine oS fun _ hK30=>?_;refine oW C5 ?_;simp only[go_sem];refine hK30 _ ?_;refine oC rfl ?_ ?_
    ·
     intro c3;have htm:=B5F hSq (j:=m) (k:=k) (by omega) (by omega)
     have hrm:(aa.getD m []).length=aa.length:=(hSq.1.2 m (by omega)).1
     have hcll:=B99 aa k i
     have hT2:((aa.getD m []).take k).length≤(clN aa k i).length∧((aa.getD m []).take k).length≤1000000:=⟨by omega,by omega⟩
     have hdn:=B9X aa k i m
     refine A2 ?_;simp only[go_sem];refine hK29 _ ?_;refine oS fun _ hK31=>?_;refine A1 ?_;refine oW C5 ?_;simp (maxSteps:=2000000)only[htm,hdl,go_sem];repeat(with_reducible first|refine oA ?_|refine And.intro (by first|exact hT2|omega) ?_)
     refine hK31 _ ?_;refine oW C5 ?_;simp only[go_sem];refine hL28 ⟨m+1,by omega⟩ _ (oK ?_) ?_
     ·
      simp (maxSteps:=2000000)only[go_sem];all_goals((repeat' refine And.intro ?_ ?_)<;>first|rfl|exact wk (by omega)|exact hdn|(congr 1;exact hdn)|(congr 1;done))
     ·
      first|(simp only[];omega)|omega|(simp;omega)
    intro c3;have hme:m=k:=by omega
    have hde:B7h aa k i m=clN aa k (i+1):=by rw[hme];exact C2P _ _ _
    refine B6 ?_;simp only[go_sem];refine hK26 _ ?_;refine oW C5 ?_;simp only[go_sem];refine hK23 _ ?_;refine oW C5 ?_;simp only[go_sem];refine hL20 ⟨i+1,by omega⟩ _ (oK ?_) ?_
    ·
     simp (maxSteps:=2000000)only[go_sem];all_goals((repeat' refine And.intro ?_ ?_)<;>first|rfl|exact wk (by omega)|exact hfn|(congr 1;exact hfn)|exact hde|(congr 1;exact hde)|(congr 1;done))
    ·
     first|(simp only[];omega)|omega|(simp;omega)
   intro c2;have hie:i=k:=by omega
   have hfe:fsN aa k i=fsN aa k k:=by rw[hie]
   have hzr:J3 ((k:Int)+1+1) 0 1099511627776=true:=J8 (by omega) (by omega)
   have hcw:(((chN aa k).length:Nat):Int)=(k:Int)+1:=by rw[A0F];omega
   have hcw2:IntKind.i64.wrap ((k:Int)+1+1)=(k:Int)+1+1:=F3 (by omega)
   have hz2:Int.toNat ((k:Int)+1+1)=k+2:=by omega
   have hcz:(0:Int)::0::List.replicate k 0=cvP (chN aa k) (fsN aa k k) (k+2) 0 0:=(C2y _ _ (k+2)).symm
   refine B6 ?_;simp only[go_sem];refine hK18 _ ?_;refine oS fun _ hK32=>?_;refine oW C5 ?_;simp (maxSteps:=2000000)only[hcw,hcw2,hz2,go_sem];repeat(with_reducible first|refine oA ?_|refine And.intro (by first|exact hzr) ?_)
   refine hK32 _ ?_;refine oS fun _ hK33=>?_;refine oS fun _ hK34=>?_;refine oW C5 ?_;simp only[List.length_replicate,go_sem];refine hK34 _ ?_;refine A1 ?_;refine A7 (ι:={ i:Nat // i≤k+2 }) (fun k'=>⟨(.c (.rd [] 26 (.row 2 (.int .i64)) (aa))::zz::zz::.c (.ow 9003)::zz::.c (.ow 9005)::zz::zz::zz::zz::zz::.c (.ow 9011)::zz::zz::zz::zz::zz::.c (.sc (.int .i64 (aa.length)))::.c (.sc (.int .i64 (k)))::zz::zz::zz::zz::zz::zz::zz::zz::zz::zz::zz::zz::zz::zz::zz::zz::zz::zz::zz::zz::zz::zz::zz::zz::zz::zz::zz::zz::zz::zz::zz::zz::zz::zz::zz::zz::zz::zz::zz::zz::zz::zz::zz::zz::zz::zz::zz::zz::zz::zz::zz::zz::zz::zz::zz::zz::zz::zz::zz::zz::zz::zz::zz::zz::zz::zz::zz::zz::zz::.c (.sc (.int .i64 ((k+2:Nat))))::.c (.sc (.int .i64 (k'.1)))::zz::zz::zz::zz::zz::zz::zz::zz::zz::zz::zz::zz::zz::zz::zz::zz::zz::zz::zz::zz::zz::zz::zz::zz::zz::zz::zz::zz::zz::zz::zz::zz::zz::zz::[]),[(9003,.row 2 (.int .i64) (chN aa k) []),(9005,.row 2 (.int .i64) (fsN aa k k) []),(9011,.row 2 (.int .i64) (cvP (chN aa k) (fsN aa k k) (k+2) k'.1 0) [])]⟩) (fun k'=>k+2 - k'.1) ⟨0,by simp⟩ ?_ ?_
   ·
    refine oK ?_;simp (maxSteps:=2000000)only[go_sem];all_goals((repeat' refine And.intro ?_ ?_)<;>first|rfl|exact hfe|exact hcz|(congr 1;done)|(simp;done))
   rintro⟨i,hi⟩ K35 hL35
   have hfl2:=B8M aa k k
   have hcl2:=A0F aa k
   refine oS fun _ hK36=>?_;refine oW C5 ?_;simp only[go_sem];refine hK36 _ ?_;refine oS fun _ hK37=>?_;refine oC rfl ?_ ?_
   ·
    intro c4;refine A2 ?_;simp only[go_sem];refine hK37 _ ?_;refine oS fun _ hK38=>?_;refine A1 ?_;refine oS fun _ hK39=>?_;refine oW C5 ?_;simp only[go_sem];refine hK39 _ ?_;refine oS fun _ hK40=>?_;refine oW C5 ?_;simp only[hcl2,go_sem];refine hK40 _ ?_;refine A1 ?_;refine A7 (ι:={ j:Nat // j≤k+1 }) (fun k''=>⟨(.c (.rd [] 26 (.row 2 (.int .i64)) (aa))::zz::zz::.c (.ow 9003)::zz::.c (.ow 9005)::zz::zz::zz::zz::zz::.c (.ow 9011)::.c (.sc (.int .i64 (i)))::zz::zz::zz::zz::.c (.sc (.int .i64 (aa.length)))::.c (.sc (.int .i64 (k)))::zz::zz::zz::zz::zz::zz::zz::zz::zz::zz::zz::zz::zz::zz::zz::zz::zz::zz::zz::zz::zz::zz::zz::zz::zz::zz::zz::zz::zz::zz::zz::zz::zz::zz::zz::zz::zz::zz::zz::zz::zz::zz::zz::zz::zz::zz::zz::zz::zz::zz::zz::zz::zz::zz::zz::zz::zz::zz::zz::zz::zz::zz::zz::zz::zz::zz::zz::zz::zz::.c (.sc (.int .i64 ((k+2:Nat))))::.c (.sc (.int .i64 (i)))::zz::zz::.c (.ow 9003)::.c (.sc (.int .i64 ((k+1:Nat))))::.c (.sc (.int .i64 (k''.1)))::zz::zz::zz::zz::zz::zz::zz::zz::zz::zz::zz::zz::zz::zz::zz::zz::zz::zz::zz::zz::zz::zz::zz::zz::zz::zz::zz::zz::zz::[]),[(9003,.row 2 (.int .i64) (chN aa k) []),(9005,.row 2 (.int .i64) (fsN aa k k) []),(9011,.row 2 (.int .i64) (cvP (chN aa k) (fsN aa k k) (k+2) i k''.1) [])]⟩) (fun k''=>k+1 - k''.1) ⟨0,by simp⟩ ?_ ?_
    ·
     refine oK ?_;simp (maxSteps:=2000000)only[go_sem];all_goals((repeat' refine And.intro ?_ ?_)<;>first|rfl|(congr 1;done)|(simp;done))
    rintro⟨j,hj⟩ K41 hL41
    have hvl:=V6 (chN aa k) (fsN aa k k) (k+2) i j
    refine oS fun _ hK42=>?_;refine oW C5 ?_;simp only[go_sem];refine hK42 _ ?_;refine oS fun _ hK43=>?_;refine oC rfl ?_ ?_
    ·
     intro c5;refine A2 ?_;simp only[go_sem];refine hK43 _ ?_;refine oS fun _ hK44=>?_;refine A1 ?_;refine oS fun _ hK45=>?_;refine oW C5 ?_;simp (maxSteps:=2000000)only[go_sem];repeat(with_reducible refine oA ?_)
     refine hK45 _ ?_;refine oS fun _ hK46=>?_;refine oW C5 ?_;simp only[go_sem];refine hK46 _ ?_;refine oC rfl ?_ ?_
     ·
      intro c6;have hji:j≤i:=by omega
      have hwj:IntKind.i64.wrap ((i:Int) - (j:Int))=((i - j:Nat):Int):=by rw[F3 (by omega)];omega
      have hnx:(cvP (chN aa k) (fsN aa k k) (k+2) i j).set i (wrap32 ((cvP (chN aa k) (fsN aa k k) (k+2) i j).getD i 0+(fsN aa k k).getD (i - j) 0 * (chN aa k).getD j 0))=cvP (chN aa k) (fsN aa k k) (k+2) i (j+1):=by rw[Int.mul_comm];exact B4Z (by omega) hji
      refine oR C5
        [[],[],[],[],[2,3],[2,3,4],[],[],[],[7,8],[6,7,8,9],[6,7,8,9,10],[],[6,7,8,9,10,11,12],[2,3,4,5,6,7,8,9,10,11,12,13],[2,3,4,5,6,7,8,9,10,11,12,13,14],[0,1,2,3,4,5,6,7,8,9,10,11,12,13,14,15],[0,1,2,3,4,5,6,7,8,9,10,11,12,13,14,15,16]]
        [[],[],[],[],[],[],[],[],[],[],[],[],[],[],[],[],[],[]]
        [[],[],[],[],[],[],[],[],[],[],[],[],[],[],[],[],[],[]] (by kernel_rfl) (by kernel_rfl) (A9 (acc:=[]) ?_)
      simp (maxSteps:=2000000)only[hwj,hvl,hfl2,A3T,Int.toNat_natCast,go_sem];repeat(with_reducible first|refine oD ?_|refine And.intro (by first|omega) ?_)
      refine hK44 _ ?_;refine oW C5 ?_;simp only[go_sem];refine hL41 ⟨j+1,by omega⟩ _ (oK ?_) ?_
      ·
       simp (maxSteps:=2000000)only[go_sem];all_goals((repeat' refine And.intro ?_ ?_)<;>first|rfl|exact wk (by omega)|exact hnx|(congr 1;exact hnx)|(congr 1;done))
      ·
       first|(simp only[];omega)|omega|(simp;omega)
     intro c6;have hnx:cvP (chN aa k) (fsN aa k k) (k+2) i j=cvP (chN aa k) (fsN aa k k) (k+2) i (j+1):=(C3G (by omega)).symm
     refine A2 ?_;simp only[go_sem];refine hK44 _ ?_;refine oW C5 ?_;simp only[go_sem];refine hL41 ⟨j+1,by omega⟩ _ (oK ?_) ?_
     ·
      simp (maxSteps:=2000000)only[go_sem];all_goals((repeat' refine And.intro ?_ ?_)<;>first|rfl|exact wk (by omega)|exact hnx|(congr 1;exact hnx)|(congr 1;done))
     ·
      first|(simp only[];omega)|omega|(simp;omega)
    intro c5;have hje:cvP (chN aa k) (fsN aa k k) (k+2) i j=cvP (chN aa k) (fsN aa k k) (k+2) (i+1) 0:=B9P (by rw[A0F];omega)
    refine B6 ?_;simp only[go_sem];refine hK38 _ ?_;refine oW C5 ?_;simp only[go_sem];refine hL35 ⟨i+1,by omega⟩ _ (oK ?_) ?_
    ·
     simp (maxSteps:=2000000)only[go_sem];all_goals((repeat' refine And.intro ?_ ?_)<;>first|rfl|exact wk (by omega)|exact hje|(congr 1;exact hje)|(congr 1;done))
    ·
     first|(simp only[];omega)|omega|(simp;omega)
   intro c4;have hie:i=k+2:=by omega
   have hch:cvP (chN aa k) (fsN aa k k) (k+2) i 0=chN aa (k+1):=by rw[hie,B8u (Nat.le_refl _)];exact C2U aa k
   refine B6 ?_;simp only[go_sem];refine hK33 _ ?_;refine oW C5 ?_;simp only[go_sem];refine hK8 _ ?_;refine oW C5 ?_;simp only[go_sem];refine hL5 ⟨k+1,by omega⟩ _ (oK ?_) ?_
   ·
    simp (maxSteps:=2000000)only[go_sem];all_goals((repeat' refine And.intro ?_ ?_)<;>first|rfl|exact wk (by omega)|exact hch|(congr 1;exact hch)|(congr 1;done))
   ·
    first|(simp only[];omega)|omega|(simp;omega)
  intro c0;have hke:k=aa.length:=by omega
  refine B6 ?_;simp only[go_sem];refine hK3 _ ?_;refine oS fun _ hK47=>?_;refine oW C5 ?_;simp only[go_sem];refine hK47 _ ?_;refine A0 ?_;simp only[hres,go_sem];first|exact oF|(refine⟨?_,oF⟩;rw[hke])
def A5n:E4:=fun f=>if f=43 then some (.p A0t) else A5d f
theorem B0p:B4 Tryz.prog A5n:=E3 B51 (B0 Tryz.func43 rfl (by decide)) C5
attribute [go_sem] A5n A0t
end Go.Proofs.YtgaogcnfijbahaaGreat
