/-
  Texts of this claim, joined (part 26). No condition beyond those of the theorems.
-/
import Derived.Test.YtgmabhkmiokiaaaGreatVa25
namespace Go.Proofs.YtgmabhkmiokiaaaGreat
open Go.RowKit
set_option linter.unusedSimpArgs false
set_option linter.unusedVariables false
set_option maxRecDepth 100000
set_option maxHeartbeats 8000000
def K_charPoly:Con:=⟨[.val ((.row 26 (.row 2 (.int .i64))))],[⟨(.row 2 (.int .i64)),true⟩],fun x=>rowsSq x.1,fun x=>chN x.1 x.1.length⟩
theorem charPoly_ok:PureT Tryz.prog 34 K_charPoly:=by
  refine pure_of_body Tryz.func34 rfl ?_
  have hres:Tryz.f34.results.toList=[.tmp 2]:=rfl
  rintro ⟨(aa:List (List Int)),_⟩ hc hL
  simp only[K_charPoly,go_sem] at hL
  simp only[K_charPoly,St.init,St.initG,Tryz.ntmps34,go_sem] 
  have hSq:rowsSq aa:=hc
  have hal:aa.length≤1000:=hSq.2
  refine oS fun _ hK1=>?_;refine oW T_convolve_ok ?_;simp only[go_sem];refine hK1 _ ?_;refine oS fun _ hK2=>?_;refine oW T_convolve_ok ?_;simp only[List.nodup_nil,go_sem];repeat (with_reducible refine oA ?_)
  refine hK2 _ ?_;refine oS fun _ hK3=>?_;refine oS fun _ hK4=>?_;refine oW T_convolve_ok ?_;simp only[go_sem];refine hK4 _ ?_;refine AWP_block ?_;refine AWP_loop_k (ι:={ k:Nat // k≤aa.length }) (fun k=>⟨(.c (.rd [] 26 (.row 2 (.int .i64)) (aa))::zz::zz::.c (.ow 9003)::zz::zz::zz::zz::zz::zz::zz::zz::zz::zz::zz::zz::zz::.c (.sc (.int .i64 (aa.length)))::.c (.sc (.int .i64 (k.1)))::zz::zz::zz::zz::zz::zz::zz::zz::zz::zz::zz::zz::zz::zz::zz::zz::zz::zz::zz::zz::zz::zz::zz::zz::zz::zz::zz::zz::zz::zz::zz::zz::zz::zz::zz::zz::zz::zz::zz::zz::zz::zz::zz::zz::zz::zz::zz::zz::zz::zz::zz::zz::zz::zz::zz::zz::zz::zz::zz::zz::zz::zz::zz::zz::zz::zz::zz::zz::zz::zz::zz::zz::zz::zz::zz::zz::zz::zz::zz::zz::zz::zz::zz::zz::zz::zz::zz::zz::zz::zz::zz::zz::zz::zz::zz::zz::zz::zz::zz::zz::zz::zz::zz::zz::zz::[]),[(9003,.row 2 (.int .i64) (chN aa k.1) [])]⟩) (fun k=>aa.length - k.1) ⟨0,by simp⟩ ?_ ?_
  ·
   refine oK ?_;simp (maxSteps:=2000000)only[go_sem];all_goals ((repeat' refine And.intro ?_ ?_)<;>first | rfl | exact (chN_0 aa).symm | (congr 1; exact (chN_0 aa).symm) | (congr 1; done) | (simp; done))
  rintro ⟨k,hk⟩ K5 hL5
  refine oS fun _ hK6=>?_;refine oW T_convolve_ok ?_;simp only[go_sem];refine hK6 _ ?_;refine oS fun _ hK7=>?_;refine oC rfl ?_ ?_
  ·
   intro c0;have hrk:(aa.getD k []).length=aa.length:=(hSq.1.2 k (by omega)).1
   have hwk1:IntKind.i64.wrap ((k:Int)+1)=(k:Int)+1:=wrapI (by omega)
   refine AWP_skip ?_;simp only[go_sem];refine hK7 _ ?_;refine oS fun _ hK8=>?_;refine AWP_block ?_;refine oS fun _ hK9=>?_;refine oW T_convolve_ok ?_;simp only[go_sem];refine hK9 _ ?_;refine oS fun _ hK10=>?_;refine oW T_convolve_ok ?_;simp (maxSteps:=2000000)only[List.nodup_nil,w32_wrap,Int.zero_sub,go_sem];repeat (with_reducible first | refine oA ?_ | refine And.intro (by first | omega) ?_)
   refine hK10 _ ?_;refine oS fun _ hK11=>?_;refine oW T_convolve_ok ?_;simp only[List.nodup_nil,go_sem];repeat (with_reducible refine oA ?_)
   refine hK11 _ ?_;refine oS fun _ hK12=>?_;refine oS fun _ hK13=>?_;refine oW T_convolve_ok ?_;simp only[go_sem];refine hK13 _ ?_;refine AWP_block ?_;refine AWP_loop_k (ι:={ i:Nat // i≤k }) (fun k'=>⟨(.c (.rd [] 26 (.row 2 (.int .i64)) (aa))::zz::zz::.c (.ow 9003)::.c (.sc (.int .i64 (k)))::.c (.ow 9005)::.c (.ow 9006)::.c (.sc (.int .i64 (k'.1)))::zz::zz::zz::zz::zz::zz::zz::zz::zz::.c (.sc (.int .i64 (aa.length)))::.c (.sc (.int .i64 (k)))::zz::zz::zz::zz::zz::zz::zz::zz::zz::zz::zz::zz::zz::zz::zz::zz::zz::zz::zz::zz::zz::zz::zz::zz::zz::zz::zz::zz::zz::zz::zz::zz::zz::zz::zz::zz::zz::zz::zz::zz::zz::zz::zz::zz::zz::zz::zz::zz::zz::zz::zz::zz::zz::zz::zz::zz::zz::zz::zz::zz::zz::zz::zz::zz::zz::zz::zz::zz::zz::zz::zz::zz::zz::zz::zz::zz::zz::zz::zz::zz::zz::zz::zz::zz::zz::zz::zz::zz::zz::zz::zz::zz::zz::zz::zz::zz::zz::zz::zz::zz::zz::zz::zz::zz::zz::[]),[(9003,.row 2 (.int .i64) (chN aa k) []),(9005,.row 2 (.int .i64) (fsN aa k 0) []),(9006,.row 2 (.int .i64) (c0N aa k k'.1) [])]⟩) (fun k'=>k - k'.1) ⟨0,by simp⟩ ?_ ?_
   ·
    refine oK ?_;simp (maxSteps:=2000000)only[go_sem];all_goals ((repeat' refine And.intro ?_ ?_)<;>first | rfl | exact (fsN_0 aa k).symm | (congr 1; exact (fsN_0 aa k).symm) | (congr 1; done) | (simp; done))
   rintro ⟨i,hi⟩ K14 hL14
   have hcl:=c0N_len aa k i
   refine oS fun _ hK15=>?_;refine oS fun _ hK16=>?_;refine oW T_convolve_ok ?_;simp only[go_sem];refine hK16 _ ?_;refine oC rfl ?_ ?_
   ·
    intro c1;have hri:(aa.getD i []).length=aa.length:=(hSq.1.2 i (by omega)).1
    have hcn:=c0N_next aa k i
    refine AWP_skip ?_;simp only[go_sem];refine hK15 _ ?_;refine oS fun _ hK17=>?_;refine AWP_block ?_;refine oW T_convolve_ok ?_;simp (maxSteps:=2000000)only[hcl,go_sem];repeat (with_reducible first | refine oA ?_ | refine And.intro (by first | omega) ?_)
    refine hK17 _ ?_;refine oW T_convolve_ok ?_;simp only[go_sem];refine hL14 ⟨i+1,by omega⟩ _ (oK ?_) ?_
    ·
     simp (maxSteps:=2000000)only[go_sem];all_goals ((repeat' refine And.intro ?_ ?_)<;>first | rfl | exact wk (by omega) | exact hcn | (congr 1; exact hcn) | (congr 1; done))
    ·
     first | (simp only[]; omega) | omega | (simp; omega)
   intro c1;have hie:i=k:=by omega
   have hce:c0N aa k i=clN aa k 0:=by rw [hie]; exact c0N_cl hSq (by omega)
   refine AWP_exit ?_;simp only[go_sem];refine hK12 _ ?_;refine oS fun _ hK18=>?_;refine oS fun _ hK19=>?_;refine oW T_convolve_ok ?_;simp only[go_sem];refine hK19 _ ?_;refine AWP_block ?_;refine AWP_loop_k (ι:={ i:Nat // i≤k }) (fun k'=>⟨(.c (.rd [] 26 (.row 2 (.int .i64)) (aa))::zz::zz::.c (.ow 9003)::.c (.sc (.int .i64 (k)))::.c (.ow 9005)::.c (.ow 9006)::zz::.c (.sc (.int .i64 (k'.1)))::zz::zz::zz::zz::zz::zz::zz::zz::.c (.sc (.int .i64 (aa.length)))::.c (.sc (.int .i64 (k)))::zz::zz::zz::zz::zz::zz::zz::zz::zz::zz::zz::zz::zz::zz::zz::zz::zz::zz::zz::zz::zz::zz::zz::zz::zz::zz::zz::zz::zz::zz::zz::zz::zz::zz::zz::zz::zz::zz::zz::zz::zz::zz::zz::zz::zz::zz::zz::zz::zz::zz::zz::zz::zz::zz::zz::zz::zz::zz::zz::zz::zz::zz::zz::zz::zz::zz::zz::zz::zz::zz::zz::zz::zz::zz::zz::zz::zz::zz::zz::zz::zz::zz::zz::zz::zz::zz::zz::zz::zz::zz::zz::zz::zz::zz::zz::zz::zz::zz::zz::zz::zz::zz::zz::zz::zz::[]),[(9003,.row 2 (.int .i64) (chN aa k) []),(9005,.row 2 (.int .i64) (fsN aa k k'.1) []),(9006,.row 2 (.int .i64) (clN aa k k'.1) [])]⟩) (fun k'=>k - k'.1) ⟨0,by simp⟩ ?_ ?_
   ·
    refine oK ?_;simp (maxSteps:=2000000)only[go_sem];all_goals ((repeat' refine And.intro ?_ ?_)<;>first | rfl | exact hce | (congr 1; exact hce) | (congr 1; done) | (simp; done))
   rintro ⟨i,hi⟩ K20 hL20
   have hfs:=fsN_len aa k i
   refine oS fun _ hK21=>?_;refine oS fun _ hK22=>?_;refine oW T_convolve_ok ?_;simp only[go_sem];refine hK22 _ ?_;refine oC rfl ?_ ?_
   ·
    intro c2;have htl:=take_len hSq (j:=k) (k:=k) (by omega) (by omega)
    have hcll:=clN_len aa k i
    have hfn:=fsN_next aa k i
    have hT1:((aa.getD k []).take k).length≤(clN aa k i).length∧((aa.getD k []).take k).length≤1000000:=⟨by omega,by omega⟩
    refine AWP_skip ?_;simp only[go_sem];refine hK21 _ ?_;refine oS fun _ hK23=>?_;refine AWP_block ?_;refine oS fun _ hK24=>?_;refine oW T_convolve_ok ?_;simp (maxSteps:=2000000)only[htl,hfs,w32_wrap,Int.zero_sub,go_sem];repeat (with_reducible first | refine oA ?_ | refine And.intro (by first | exact hT1 | omega) ?_)
    refine hK24 _ ?_;refine oS fun _ hK25=>?_;refine oW T_convolve_ok ?_;simp only[List.nodup_nil,go_sem];repeat (with_reducible refine oA ?_)
    refine hK25 _ ?_;refine oS fun _ hK26=>?_;refine oS fun _ hK27=>?_;refine oW T_convolve_ok ?_;simp only[go_sem];refine hK27 _ ?_;refine AWP_block ?_;refine AWP_loop_k (ι:={ m:Nat // m≤k }) (fun k''=>⟨(.c (.rd [] 26 (.row 2 (.int .i64)) (aa))::zz::zz::.c (.ow 9003)::.c (.sc (.int .i64 (k)))::.c (.ow 9005)::.c (.ow 9006)::zz::.c (.sc (.int .i64 (i)))::.c (.ow 9009)::.c (.sc (.int .i64 (k''.1)))::zz::zz::zz::zz::zz::zz::.c (.sc (.int .i64 (aa.length)))::.c (.sc (.int .i64 (k)))::zz::zz::zz::zz::zz::zz::zz::zz::zz::zz::zz::zz::zz::zz::zz::zz::zz::zz::zz::zz::zz::zz::zz::zz::zz::zz::zz::zz::zz::zz::zz::zz::zz::zz::zz::zz::zz::zz::zz::zz::zz::zz::zz::zz::zz::zz::zz::zz::zz::zz::zz::zz::zz::zz::zz::zz::zz::zz::zz::zz::zz::zz::zz::zz::zz::zz::zz::zz::zz::zz::zz::zz::zz::zz::zz::zz::zz::zz::zz::zz::zz::zz::zz::zz::zz::zz::zz::zz::zz::zz::zz::zz::zz::zz::zz::zz::zz::zz::zz::zz::zz::zz::zz::zz::zz::[]),[(9003,.row 2 (.int .i64) (chN aa k) []),(9005,.row 2 (.int .i64) (fsN aa k (i+1)) []),(9006,.row 2 (.int .i64) (clN aa k i) []),(9009,.row 2 (.int .i64) (dotK aa k i k''.1) [])]⟩) (fun k''=>k - k''.1) ⟨0,by simp⟩ ?_ ?_
    ·
     refine oK ?_;simp (maxSteps:=2000000)only[go_sem];all_goals ((repeat' refine And.intro ?_ ?_)<;>first | rfl | exact hfn | (congr 1; exact hfn) | (congr 1; done) | (simp; done))
    rintro ⟨m,hm⟩ K28 hL28
    have hdl:=dotK_len aa k i m
    refine oS fun _ hK29=>?_;refine oS fun _ hK30=>?_;refine oW T_convolve_ok ?_;simp only[go_sem];refine hK30 _ ?_;refine oC rfl ?_ ?_
    ·
     intro c3;have htm:=take_len hSq (j:=m) (k:=k) (by omega) (by omega)
     have hrm:(aa.getD m []).length=aa.length:=(hSq.1.2 m (by omega)).1
     have hcll:=clN_len aa k i
     have hT2:((aa.getD m []).take k).length≤(clN aa k i).length∧((aa.getD m []).take k).length≤1000000:=⟨by omega,by omega⟩
     have hdn:=dotK_next aa k i m
     refine AWP_skip ?_;simp only[go_sem];refine hK29 _ ?_;refine oS fun _ hK31=>?_;refine AWP_block ?_;refine oW T_convolve_ok ?_;simp (maxSteps:=2000000)only[htm,hdl,go_sem];repeat (with_reducible first | refine oA ?_ | refine And.intro (by first | exact hT2 | omega) ?_)
     refine hK31 _ ?_;refine oW T_convolve_ok ?_;simp only[go_sem];refine hL28 ⟨m+1,by omega⟩ _ (oK ?_) ?_
     ·
      simp (maxSteps:=2000000)only[go_sem];all_goals ((repeat' refine And.intro ?_ ?_)<;>first | rfl | exact wk (by omega) | exact hdn | (congr 1; exact hdn) | (congr 1; done))
     ·
      first | (simp only[]; omega) | omega | (simp; omega)
    intro c3;have hme:m=k:=by omega
    have hde:dotK aa k i m=clN aa k (i+1):=by rw [hme]; exact dotK_all _ _ _
    refine AWP_exit ?_;simp only[go_sem];refine hK26 _ ?_;refine oW T_convolve_ok ?_;simp only[go_sem];refine hK23 _ ?_;refine oW T_convolve_ok ?_;simp only[go_sem];refine hL20 ⟨i+1,by omega⟩ _ (oK ?_) ?_
    ·
     simp (maxSteps:=2000000)only[go_sem];all_goals ((repeat' refine And.intro ?_ ?_)<;>first | rfl | exact wk (by omega) | exact hfn | (congr 1; exact hfn) | exact hde | (congr 1; exact hde) | (congr 1; done))
    ·
     first | (simp only[]; omega) | omega | (simp; omega)
   intro c2;have hie:i=k:=by omega
   have hfe:fsN aa k i=fsN aa k k:=by rw [hie]
   have hzr:inR ((k:Int)+1+1) 0 1099511627776=true:=inR_t (by omega) (by omega)
   have hcw:(((chN aa k).length:Nat):Int)=(k:Int)+1:=by rw [chN_len]; omega
   have hcw2:IntKind.i64.wrap ((k:Int)+1+1)=(k:Int)+1+1:=wrapI (by omega)
   have hz2:Int.toNat ((k:Int)+1+1)=k+2:=by omega
   have hcz:(0:Int)::0::List.replicate k 0=cvP (chN aa k) (fsN aa k k) (k+2) 0 0:=(cvP_0 _ _ (k+2)).symm
   refine AWP_exit ?_;simp only[go_sem];refine hK18 _ ?_;refine oS fun _ hK32=>?_;refine oW T_convolve_ok ?_;simp (maxSteps:=2000000)only[hcw,hcw2,hz2,go_sem];repeat (with_reducible first | refine oA ?_ | refine And.intro (by first | exact hzr) ?_)
   refine hK32 _ ?_;refine oS fun _ hK33=>?_;refine oS fun _ hK34=>?_;refine oW T_convolve_ok ?_;simp only[List.length_replicate,go_sem];refine hK34 _ ?_;refine AWP_block ?_;refine AWP_loop_k (ι:={ i:Nat // i≤k+2 }) (fun k'=>⟨(.c (.rd [] 26 (.row 2 (.int .i64)) (aa))::zz::zz::.c (.ow 9003)::zz::.c (.ow 9005)::zz::zz::zz::zz::zz::.c (.ow 9011)::zz::zz::zz::zz::zz::.c (.sc (.int .i64 (aa.length)))::.c (.sc (.int .i64 (k)))::zz::zz::zz::zz::zz::zz::zz::zz::zz::zz::zz::zz::zz::zz::zz::zz::zz::zz::zz::zz::zz::zz::zz::zz::zz::zz::zz::zz::zz::zz::zz::zz::zz::zz::zz::zz::zz::zz::zz::zz::zz::zz::zz::zz::zz::zz::zz::zz::zz::zz::zz::zz::zz::zz::zz::zz::zz::zz::zz::zz::zz::zz::zz::zz::zz::zz::zz::zz::zz::.c (.sc (.int .i64 ((k+2:Nat))))::.c (.sc (.int .i64 (k'.1)))::zz::zz::zz::zz::zz::zz::zz::zz::zz::zz::zz::zz::zz::zz::zz::zz::zz::zz::zz::zz::zz::zz::zz::zz::zz::zz::zz::zz::zz::zz::zz::zz::zz::zz::[]),[(9003,.row 2 (.int .i64) (chN aa k) []),(9005,.row 2 (.int .i64) (fsN aa k k) []),(9011,.row 2 (.int .i64) (cvP (chN aa k) (fsN aa k k) (k+2) k'.1 0) [])]⟩) (fun k'=>k+2 - k'.1) ⟨0,by simp⟩ ?_ ?_
   ·
    refine oK ?_;simp (maxSteps:=2000000)only[go_sem];all_goals ((repeat' refine And.intro ?_ ?_)<;>first | rfl | exact hfe | exact hcz | (congr 1; done) | (simp; done))
   rintro ⟨i,hi⟩ K35 hL35
   have hfl2:=fsN_len aa k k
   have hcl2:=chN_len aa k
   refine oS fun _ hK36=>?_;refine oW T_convolve_ok ?_;simp only[go_sem];refine hK36 _ ?_;refine oS fun _ hK37=>?_;refine oC rfl ?_ ?_
   ·
    intro c4;refine AWP_skip ?_;simp only[go_sem];refine hK37 _ ?_;refine oS fun _ hK38=>?_;refine AWP_block ?_;refine oS fun _ hK39=>?_;refine oW T_convolve_ok ?_;simp only[go_sem];refine hK39 _ ?_;refine oS fun _ hK40=>?_;refine oW T_convolve_ok ?_;simp only[hcl2,go_sem];refine hK40 _ ?_;refine AWP_block ?_;refine AWP_loop_k (ι:={ j:Nat // j≤k+1 }) (fun k''=>⟨(.c (.rd [] 26 (.row 2 (.int .i64)) (aa))::zz::zz::.c (.ow 9003)::zz::.c (.ow 9005)::zz::zz::zz::zz::zz::.c (.ow 9011)::.c (.sc (.int .i64 (i)))::zz::zz::zz::zz::.c (.sc (.int .i64 (aa.length)))::.c (.sc (.int .i64 (k)))::zz::zz::zz::zz::zz::zz::zz::zz::zz::zz::zz::zz::zz::zz::zz::zz::zz::zz::zz::zz::zz::zz::zz::zz::zz::zz::zz::zz::zz::zz::zz::zz::zz::zz::zz::zz::zz::zz::zz::zz::zz::zz::zz::zz::zz::zz::zz::zz::zz::zz::zz::zz::zz::zz::zz::zz::zz::zz::zz::zz::zz::zz::zz::zz::zz::zz::zz::zz::zz::.c (.sc (.int .i64 ((k+2:Nat))))::.c (.sc (.int .i64 (i)))::zz::zz::.c (.ow 9003)::.c (.sc (.int .i64 ((k+1:Nat))))::.c (.sc (.int .i64 (k''.1)))::zz::zz::zz::zz::zz::zz::zz::zz::zz::zz::zz::zz::zz::zz::zz::zz::zz::zz::zz::zz::zz::zz::zz::zz::zz::zz::zz::zz::zz::[]),[(9003,.row 2 (.int .i64) (chN aa k) []),(9005,.row 2 (.int .i64) (fsN aa k k) []),(9011,.row 2 (.int .i64) (cvP (chN aa k) (fsN aa k k) (k+2) i k''.1) [])]⟩) (fun k''=>k+1 - k''.1) ⟨0,by simp⟩ ?_ ?_
    ·
     refine oK ?_;simp (maxSteps:=2000000)only[go_sem];all_goals ((repeat' refine And.intro ?_ ?_)<;>first | rfl | (congr 1; done) | (simp; done))
    rintro ⟨j,hj⟩ K41 hL41
    have hvl:=cvP_len (chN aa k) (fsN aa k k) (k+2) i j
    refine oS fun _ hK42=>?_;refine oW T_convolve_ok ?_;simp only[go_sem];refine hK42 _ ?_;refine oS fun _ hK43=>?_;refine oC rfl ?_ ?_
    ·
     intro c5;refine AWP_skip ?_;simp only[go_sem];refine hK43 _ ?_;refine oS fun _ hK44=>?_;refine AWP_block ?_;refine oS fun _ hK45=>?_;refine oW T_convolve_ok ?_;simp (maxSteps:=2000000)only[go_sem];repeat (with_reducible refine oA ?_)
     refine hK45 _ ?_;refine oS fun _ hK46=>?_;refine oW T_convolve_ok ?_;simp only[go_sem];refine hK46 _ ?_;refine oC rfl ?_ ?_
     ·
      intro c6;have hji:j≤i:=by omega
      have hwj:IntKind.i64.wrap ((i:Int) - (j:Int))=((i - j:Nat):Int):=by rw [wrapI (by omega)]; omega
      have hnx:(cvP (chN aa k) (fsN aa k k) (k+2) i j).set i (wrap32 ((cvP (chN aa k) (fsN aa k k) (k+2) i j).getD i 0+(fsN aa k k).getD (i - j) 0 * (chN aa k).getD j 0))=cvP (chN aa k) (fsN aa k k) (k+2) i (j+1):=by rw [Int.mul_comm]; exact cvP_next (by omega) hji
      refine oR T_convolve_ok
        [[],[],[],[],[2,3],[2,3,4],[],[],[],[7,8],[6,7,8,9],[6,7,8,9,10],[],[6,7,8,9,10,11,12],[2,3,4,5,6,7,8,9,10,11,12,13],[2,3,4,5,6,7,8,9,10,11,12,13,14],[0,1,2,3,4,5,6,7,8,9,10,11,12,13,14,15],[0,1,2,3,4,5,6,7,8,9,10,11,12,13,14,15,16]]
        [[],[],[],[],[],[],[],[],[],[],[],[],[],[],[],[],[],[]]
        [[],[],[],[],[],[],[],[],[],[],[],[],[],[],[],[],[],[]] (by kernel_rfl) (by kernel_rfl) (adrawR_ok (acc:=[]) ?_)
      simp (maxSteps:=2000000)only[hwj,hvl,hfl2,w32_add2,Int.toNat_natCast,go_sem];repeat (with_reducible first | refine oD ?_ | refine And.intro (by first | omega) ?_)
      refine hK44 _ ?_;refine oW T_convolve_ok ?_;simp only[go_sem];refine hL41 ⟨j+1,by omega⟩ _ (oK ?_) ?_
      ·
       simp (maxSteps:=2000000)only[go_sem];all_goals ((repeat' refine And.intro ?_ ?_)<;>first | rfl | exact wk (by omega) | exact hnx | (congr 1; exact hnx) | (congr 1; done))
      ·
       first | (simp only[]; omega) | omega | (simp; omega)
     intro c6;have hnx:cvP (chN aa k) (fsN aa k k) (k+2) i j=cvP (chN aa k) (fsN aa k k) (k+2) i (j+1):=(cvP_skip (by omega)).symm
     refine AWP_skip ?_;simp only[go_sem];refine hK44 _ ?_;refine oW T_convolve_ok ?_;simp only[go_sem];refine hL41 ⟨j+1,by omega⟩ _ (oK ?_) ?_
     ·
      simp (maxSteps:=2000000)only[go_sem];all_goals ((repeat' refine And.intro ?_ ?_)<;>first | rfl | exact wk (by omega) | exact hnx | (congr 1; exact hnx) | (congr 1; done))
     ·
      first | (simp only[]; omega) | omega | (simp; omega)
    intro c5;have hje:cvP (chN aa k) (fsN aa k k) (k+2) i j=cvP (chN aa k) (fsN aa k k) (k+2) (i+1) 0:=cvP_end (by rw [chN_len]; omega)
    refine AWP_exit ?_;simp only[go_sem];refine hK38 _ ?_;refine oW T_convolve_ok ?_;simp only[go_sem];refine hL35 ⟨i+1,by omega⟩ _ (oK ?_) ?_
    ·
     simp (maxSteps:=2000000)only[go_sem];all_goals ((repeat' refine And.intro ?_ ?_)<;>first | rfl | exact wk (by omega) | exact hje | (congr 1; exact hje) | (congr 1; done))
    ·
     first | (simp only[]; omega) | omega | (simp; omega)
   intro c4;have hie:i=k+2:=by omega
   have hch:cvP (chN aa k) (fsN aa k k) (k+2) i 0=chN aa (k+1):=by rw [hie,cvP_all (Nat.le_refl _)]; exact chN_next aa k
   refine AWP_exit ?_;simp only[go_sem];refine hK33 _ ?_;refine oW T_convolve_ok ?_;simp only[go_sem];refine hK8 _ ?_;refine oW T_convolve_ok ?_;simp only[go_sem];refine hL5 ⟨k+1,by omega⟩ _ (oK ?_) ?_
   ·
    simp (maxSteps:=2000000)only[go_sem];all_goals ((repeat' refine And.intro ?_ ?_)<;>first | rfl | exact wk (by omega) | exact hch | (congr 1; exact hch) | (congr 1; done))
   ·
    first | (simp only[]; omega) | omega | (simp; omega)
  intro c0;have hke:k=aa.length:=by omega
  refine AWP_exit ?_;simp only[go_sem];refine hK3 _ ?_;refine oS fun _ hK47=>?_;refine oW T_convolve_ok ?_;simp only[go_sem];refine hK47 _ ?_;refine AWP_ret ?_;simp only[hres,go_sem];first | exact oF | (refine ⟨?_,oF⟩; rw [hke])
def T_charPoly:Tab:=fun f=>if f=34 then some (.p K_charPoly) else T_convolve f
theorem T_charPoly_ok:TabOk Tryz.prog T_charPoly:=tabP charPoly_ok (fnOk_of Tryz.func34 rfl (by decide)) T_convolve_ok
attribute [go_sem] T_charPoly K_charPoly
end Go.Proofs.YtgmabhkmiokiaaaGreat
