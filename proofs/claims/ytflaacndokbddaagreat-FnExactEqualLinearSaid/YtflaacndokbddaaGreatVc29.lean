/-
  Texts of this claim, joined (part 29). No condition beyond those of the theorems.
-/
import Derived.Test.YtflaacndokbddaaGreatVc28
namespace Go.Proofs.YtflaacndokbddaaGreat
open Go.RowKit
set_option linter.unusedSimpArgs false
set_option linter.unusedVariables false
set_option maxRecDepth 100000
set_option maxHeartbeats 8000000
def K_l09Char:Con:=⟨[.val ((.row 26 (.row 2 (.int .i64))))],[⟨(.row 2 (.int .i64)),true⟩],fun x=>rowsSq x.1,fun x=>chN x.1 x.1.length⟩
theorem l09Char_ok:PureT Tryz.prog 152 K_l09Char:=by
  refine pure_of_body Tryz.func152 rfl ?_
  have hres:Tryz.f152.results.toList=[.tmp 2]:=rfl
  rintro ⟨(aa:List (List Int)),_⟩ hc hL
  simp only[K_l09Char,go_sem] at hL
  simp only[K_l09Char,St.init,St.initG,Tryz.ntmps152,go_sem] 
  have hSq:rowsSq aa:=hc
  have hal:aa.length≤1000:=hSq.2
  refine oS fun _ hK1=>?_
  refine oW T_l04Mul_ok ?_
  simp only[go_sem]
  refine hK1 _ ?_
  refine oS fun _ hK2=>?_
  refine oW T_l04Mul_ok ?_
  simp only[List.nodup_nil,go_sem]
  repeat (with_reducible refine oA ?_)
  refine hK2 _ ?_
  refine oS fun _ hK3=>?_
  refine oS fun _ hK4=>?_
  refine oW T_l04Mul_ok ?_
  simp only[go_sem]
  refine hK4 _ ?_
  refine AWP_block ?_
  refine AWP_loop_k (ι:={ k:Nat // k≤aa.length }) (fun k=>⟨(.c (.rd [] 26 (.row 2 (.int .i64)) (aa)) :: zz :: zz :: .c (.ow 9003) :: .c (.sc (.int .i64 (k.1))) :: zz :: zz :: zz :: zz :: zz :: zz :: zz :: zz :: zz :: zz :: zz :: zz :: zz :: zz :: zz :: zz :: zz :: zz :: zz :: zz :: zz :: zz :: zz :: zz :: zz :: zz :: zz :: zz :: zz :: zz :: zz :: zz :: zz :: zz :: zz :: zz :: zz :: zz :: zz :: zz :: zz :: zz :: zz :: zz :: zz :: zz :: zz :: zz :: zz :: zz :: zz :: zz :: zz :: zz :: zz :: zz :: zz :: zz :: zz :: zz :: zz :: zz :: zz :: zz :: zz :: zz :: zz :: zz :: zz :: zz :: zz :: zz :: zz :: zz :: zz :: zz :: zz :: zz :: zz :: zz :: zz :: zz :: zz :: zz :: zz :: zz :: zz :: zz :: zz :: zz :: zz :: zz :: zz :: zz :: zz :: zz :: zz :: zz :: zz :: zz :: zz :: zz :: zz :: zz :: zz :: zz :: zz :: zz :: zz :: zz :: []),[(9003,.row 2 (.int .i64) (chN aa k.1) [])]⟩) (fun k=>aa.length - k.1) ⟨0,by simp⟩ ?_ ?_
  ·
   refine oK ?_
   simp (maxSteps:=2000000)only[go_sem]
   all_goals ((repeat' refine And.intro ?_ ?_)<;>first | rfl | exact (chN_0 aa).symm | (congr 1; exact (chN_0 aa).symm) | (congr 1; done) | (simp; done))
  rintro ⟨k,hk⟩ K5 hL5
  refine oS fun _ hK6=>?_
  refine oS fun _ hK7=>?_
  refine oW T_l04Mul_ok ?_
  simp only[go_sem]
  refine hK7 _ ?_
  refine oC rfl ?_ ?_
  ·
   intro c0
   have hrk:(aa.getD k []).length=aa.length:=(hSq.1.2 k (by omega)).1
   have hwk1:IntKind.i64.wrap ((k:Int)+1)=(k:Int)+1:=wrapI (by omega)
   refine AWP_skip ?_
   simp only[go_sem]
   refine hK6 _ ?_
   refine oS fun _ hK8=>?_
   refine AWP_block ?_
   refine oS fun _ hK9=>?_
   refine oW T_l04Mul_ok ?_
   simp (maxSteps:=2000000)only[List.nodup_nil,Int.zero_sub,go_sem]
   repeat (with_reducible first | refine oA ?_ | refine And.intro (by first | omega) ?_)
   refine hK9 _ ?_
   refine oS fun _ hK10=>?_
   refine oW T_l04Mul_ok ?_
   simp only[List.nodup_nil,go_sem]
   repeat (with_reducible refine oA ?_)
   refine hK10 _ ?_
   refine oS fun _ hK11=>?_
   refine oW T_l04Mul_ok ?_
   simp only[List.nodup_nil,go_sem]
   repeat (with_reducible refine oA ?_)
   refine hK11 _ ?_
   refine oS fun _ hK12=>?_
   refine oS fun _ hK13=>?_
   refine oW T_l04Mul_ok ?_
   simp only[go_sem]
   refine hK13 _ ?_
   refine AWP_block ?_
   refine AWP_loop_k (ι:={ i:Nat // i≤k }) (fun k'=>⟨(.c (.rd [] 26 (.row 2 (.int .i64)) (aa)) :: zz :: zz :: .c (.ow 9003) :: .c (.sc (.int .i64 (k))) :: .c (.ow 9005) :: .c (.ow 9006) :: .c (.ow 9007) :: .c (.sc (.int .i64 (k'.1))) :: zz :: zz :: zz :: zz :: zz :: zz :: zz :: zz :: zz :: zz :: zz :: zz :: zz :: zz :: zz :: zz :: zz :: zz :: zz :: zz :: zz :: zz :: zz :: zz :: zz :: zz :: zz :: zz :: zz :: zz :: zz :: zz :: zz :: zz :: zz :: zz :: zz :: zz :: zz :: zz :: zz :: zz :: zz :: zz :: zz :: zz :: zz :: zz :: zz :: zz :: zz :: zz :: zz :: zz :: zz :: zz :: zz :: zz :: zz :: zz :: zz :: zz :: zz :: zz :: zz :: zz :: zz :: zz :: zz :: zz :: zz :: zz :: zz :: zz :: zz :: zz :: zz :: zz :: zz :: zz :: zz :: zz :: zz :: zz :: zz :: zz :: zz :: zz :: zz :: zz :: zz :: zz :: zz :: zz :: zz :: zz :: zz :: zz :: zz :: zz :: zz :: zz :: zz :: zz :: zz :: zz :: []),[(9003,.row 2 (.int .i64) (chN aa k) []),(9005,.row 2 (.int .i64) (fsN aa k 0) []),(9006,.row 26 ((.row 2 (.int .i64))) (ptN aa k k'.1) []),(9007,.row 2 (.int .i64) (c0N aa k k'.1) [])]⟩) (fun k'=>k - k'.1) ⟨0,by simp⟩ ?_ ?_
   ·
    refine oK ?_
    simp (maxSteps:=2000000)only[go_sem]
    all_goals ((repeat' refine And.intro ?_ ?_)<;>first | rfl | exact (fsN_0 aa k).symm | (congr 1; exact (fsN_0 aa k).symm) | (congr 1; done) | (simp; done))
   rintro ⟨i,hi⟩ K14 hL14
   have hpl:=ptN_len aa k i
   have hcl:=c0N_len aa k i
   refine oS fun _ hK15=>?_
   refine oS fun _ hK16=>?_
   refine oW T_l04Mul_ok ?_
   simp only[go_sem]
   refine hK16 _ ?_
   refine oC rfl ?_ ?_
   ·
    intro c1
    have hri:(aa.getD i []).length=aa.length:=(hSq.1.2 i (by omega)).1
    have hpn:=ptN_next aa k i
    have hcn:=c0N_next aa k i
    refine AWP_skip ?_
    simp only[go_sem]
    refine hK15 _ ?_
    refine oS fun _ hK17=>?_
    refine AWP_block ?_
    refine oS fun _ hK18=>?_
    refine oW T_l04Mul_ok ?_
    simp (maxSteps:=2000000)only[hpl,go_sem]
    repeat (with_reducible first | refine oA ?_ | refine And.intro (by first | omega) ?_)
    refine hK18 _ ?_
    refine oW T_l04Mul_ok ?_
    simp (maxSteps:=2000000)only[hcl,go_sem]
    repeat (with_reducible first | refine oA ?_ | refine And.intro (by first | omega) ?_)
    refine hK17 _ ?_
    refine oW T_l04Mul_ok ?_
    simp only[go_sem]
    refine hL14 ⟨i+1,by omega⟩ _ (oK ?_) ?_
    ·
     simp (maxSteps:=2000000)only[go_sem]
     all_goals ((repeat' refine And.intro ?_ ?_)<;>first | rfl | exact wk (by omega) | exact hpn | (congr 1; exact hpn) | exact hcn | (congr 1; exact hcn) | (congr 1; done))
    ·
     first | (simp only[]; omega) | omega | (simp; omega)
   intro c1
   have hie:i=k:=by omega
   have hpe:ptN aa k i=ptN aa k k:=by rw [hie]
   have hce:c0N aa k i=clN aa k 0:=by rw [hie]; exact c0N_cl hSq (by omega)
   refine AWP_exit ?_
   simp only[go_sem]
   refine hK12 _ ?_
   refine oS fun _ hK19=>?_
   refine oS fun _ hK20=>?_
   refine oW T_l04Mul_ok ?_
   simp only[go_sem]
   refine hK20 _ ?_
   refine AWP_block ?_
   refine AWP_loop_k (ι:={ i:Nat // i≤k }) (fun k'=>⟨(.c (.rd [] 26 (.row 2 (.int .i64)) (aa)) :: zz :: zz :: .c (.ow 9003) :: .c (.sc (.int .i64 (k))) :: .c (.ow 9005) :: .c (.ow 9006) :: .c (.ow 9007) :: zz :: .c (.sc (.int .i64 (k'.1))) :: zz :: zz :: zz :: zz :: zz :: zz :: zz :: zz :: zz :: zz :: zz :: zz :: zz :: zz :: zz :: zz :: zz :: zz :: zz :: zz :: zz :: zz :: zz :: zz :: zz :: zz :: zz :: zz :: zz :: zz :: zz :: zz :: zz :: zz :: zz :: zz :: zz :: zz :: zz :: zz :: zz :: zz :: zz :: zz :: zz :: zz :: zz :: zz :: zz :: zz :: zz :: zz :: zz :: zz :: zz :: zz :: zz :: zz :: zz :: zz :: zz :: zz :: zz :: zz :: zz :: zz :: zz :: zz :: zz :: zz :: zz :: zz :: zz :: zz :: zz :: zz :: zz :: zz :: zz :: zz :: zz :: zz :: zz :: zz :: zz :: zz :: zz :: zz :: zz :: zz :: zz :: zz :: zz :: zz :: zz :: zz :: zz :: zz :: zz :: zz :: zz :: zz :: zz :: zz :: zz :: []),[(9003,.row 2 (.int .i64) (chN aa k) []),(9005,.row 2 (.int .i64) (fsN aa k k'.1) []),(9006,.row 26 ((.row 2 (.int .i64))) (ptN aa k k) []),(9007,.row 2 (.int .i64) (clN aa k k'.1) [])]⟩) (fun k'=>k - k'.1) ⟨0,by simp⟩ ?_ ?_
   ·
    refine oK ?_
    simp (maxSteps:=2000000)only[go_sem]
    all_goals ((repeat' refine And.intro ?_ ?_)<;>first | rfl | exact hpe | (congr 1; exact hpe) | exact hce | (congr 1; exact hce) | (congr 1; done) | (simp; done))
   rintro ⟨i,hi⟩ K21 hL21
   have hfs:=fsN_len aa k i
   refine oS fun _ hK22=>?_
   refine oS fun _ hK23=>?_
   refine oW T_l04Mul_ok ?_
   simp only[go_sem]
   refine hK23 _ ?_
   refine oC rfl ?_ ?_
   ·
    intro c2
    have htl:=take_len hSq (j:=k) (k:=k) (by omega) (by omega)
    have hfn:=fsN_next aa k i
    have hT1:[((aa.getD k []).take k)].length≤1000∧(clN aa k i).length≤1000∧∀ j,j < [((aa.getD k []).take k)].length→(clN aa k i).length≤([((aa.getD k []).take k)].getD j []).length:=⟨by simp,by rw [clN_len]; omega,one_ge (by rw [clN_len,htl]; exact Nat.le_refl _)⟩
    have hT1b:(clN aa k i).length≤1000∧∀ j:Nat,j < 1→(clN aa k i).length≤List.length ([List.take k (aa.getD k [])].getD j []):=hT1.2
    have hT2:(ptN aa k k).length≤1000∧(clN aa k i).length≤1000∧∀ j,j < (ptN aa k k).length→(clN aa k i).length≤((ptN aa k k).getD j []).length:=⟨by rw [ptN_len]; omega,by rw [clN_len]; omega,fun j hj=>by rw [ptN_len] at hj; rw [ptN_at hj,take_len hSq (by omega) (by omega),clN_len]; exact Nat.le_refl _⟩
    refine AWP_skip ?_
    simp only[go_sem]
    refine hK22 _ ?_
    refine oS fun _ hK24=>?_
    refine AWP_block ?_
    refine oS fun _ hK25=>?_
    refine oW T_l04Mul_ok ?_
    simp (maxSteps:=2000000)only[List.nodup_cons,List.nodup_nil,List.not_mem_nil,not_false_eq_true,pt_one,hfs,Int.zero_sub,go_sem]
    repeat (with_reducible first | refine oA ?_ | refine And.intro (by first | exact hT1 | exact hT1b | exact ⟨Int.le_refl _,by simp⟩ | omega) ?_)
    refine hK25 _ ?_
    refine oW T_l04Mul_ok ?_
    simp only[List.nodup_cons,List.nodup_nil,List.not_mem_nil,not_false_eq_true,pt_times,go_sem]
    repeat (with_reducible first | refine oA ?_ | refine And.intro (by first | exact hT2) ?_)
    refine hK24 _ ?_
    refine oW T_l04Mul_ok ?_
    simp only[go_sem]
    refine hL21 ⟨i+1,by omega⟩ _ (oK ?_) ?_
    ·
     simp (maxSteps:=2000000)only[go_sem]
     all_goals ((repeat' refine And.intro ?_ ?_)<;>first | rfl | exact wk (by omega) | exact hfn | (congr 1; exact hfn) | (congr 1; done))
    ·
     first | (simp only[]; omega) | omega | (simp; omega)
   intro c2
   have hie:i=k:=by omega
   have hfe:fsN aa k i=fsN aa k k:=by rw [hie]
   refine AWP_exit ?_
   simp only[go_sem]
   refine hK19 _ ?_
   refine oS fun _ hK26=>?_
   refine oW T_l04Mul_ok ?_
   simp only[List.nodup_nil,go_sem]
   repeat (with_reducible refine oA ?_)
   refine hK26 _ ?_
   refine oS fun _ hK27=>?_
   refine oS fun _ hK28=>?_
   refine oW T_l04Mul_ok ?_
   simp only[go_sem]
   refine hK28 _ ?_
   refine AWP_block ?_
   refine AWP_loop_k (ι:={ i:Nat // i≤k+2 }) (fun k'=>⟨(.c (.rd [] 26 (.row 2 (.int .i64)) (aa)) :: zz :: zz :: .c (.ow 9003) :: .c (.sc (.int .i64 (k))) :: .c (.ow 9005) :: zz :: zz :: zz :: zz :: .c (.ow 9010) :: .c (.sc (.int .i64 (k'.1))) :: zz :: zz :: zz :: zz :: zz :: zz :: zz :: zz :: zz :: zz :: zz :: zz :: zz :: zz :: zz :: zz :: zz :: zz :: zz :: zz :: zz :: zz :: zz :: zz :: zz :: zz :: zz :: zz :: zz :: zz :: zz :: zz :: zz :: zz :: zz :: zz :: zz :: zz :: zz :: zz :: zz :: zz :: zz :: zz :: zz :: zz :: zz :: zz :: zz :: zz :: zz :: zz :: zz :: zz :: zz :: zz :: zz :: zz :: zz :: zz :: zz :: zz :: zz :: zz :: zz :: zz :: zz :: zz :: zz :: zz :: zz :: zz :: zz :: zz :: zz :: zz :: zz :: zz :: zz :: zz :: zz :: zz :: zz :: zz :: zz :: zz :: zz :: zz :: zz :: zz :: zz :: zz :: zz :: zz :: zz :: zz :: zz :: zz :: zz :: zz :: zz :: zz :: zz :: []),[(9003,.row 2 (.int .i64) (chN aa k) []),(9005,.row 2 (.int .i64) (fsN aa k k) []),(9010,.row 2 (.int .i64) (convN (chN aa k) (fsN aa k k) k'.1) [])]⟩) (fun k'=>k+2 - k'.1) ⟨0,by simp⟩ ?_ ?_
   ·
    refine oK ?_
    simp (maxSteps:=2000000)only[go_sem]
    all_goals ((repeat' refine And.intro ?_ ?_)<;>first | rfl | exact hfe | (congr 1; exact hfe) | (congr 1; done) | (simp; done))
   rintro ⟨i,hi⟩ K29 hL29
   have hfl2:=fsN_len aa k k
   have hcl2:=chN_len aa k
   refine oS fun _ hK30=>?_
   refine oS fun _ hK31=>?_
   refine oW T_l04Mul_ok ?_
   simp only[hwk1,go_sem]
   refine hK31 _ ?_
   refine oC rfl ?_ ?_
   ·
    intro c3
    refine AWP_skip ?_
    simp only[go_sem]
    refine hK30 _ ?_
    refine oS fun _ hK32=>?_
    refine AWP_block ?_
    refine oS fun _ hK33=>?_
    refine oW T_l04Mul_ok ?_
    simp only[go_sem]
    refine hK33 _ ?_
    refine oS fun _ hK34=>?_
    refine oS fun _ hK35=>?_
    refine oW T_l04Mul_ok ?_
    simp only[go_sem]
    refine hK35 _ ?_
    refine AWP_block ?_
    refine AWP_loop_k (ι:={ j:Nat // j≤i+1∧j≤k+1 }) (fun k''=>⟨(.c (.rd [] 26 (.row 2 (.int .i64)) (aa)) :: zz :: zz :: .c (.ow 9003) :: .c (.sc (.int .i64 (k))) :: .c (.ow 9005) :: zz :: zz :: zz :: zz :: .c (.ow 9010) :: .c (.sc (.int .i64 (i))) :: .c (.sc (.int .i64 (cvS (chN aa k) (fsN aa k k) i k''.1))) :: .c (.sc (.int .i64 (k''.1))) :: zz :: zz :: zz :: zz :: zz :: zz :: zz :: zz :: zz :: zz :: zz :: zz :: zz :: zz :: zz :: zz :: zz :: zz :: zz :: zz :: zz :: zz :: zz :: zz :: zz :: zz :: zz :: zz :: zz :: zz :: zz :: zz :: zz :: zz :: zz :: zz :: zz :: zz :: zz :: zz :: zz :: zz :: zz :: zz :: zz :: zz :: zz :: zz :: zz :: zz :: zz :: zz :: zz :: zz :: zz :: zz :: zz :: zz :: zz :: zz :: zz :: zz :: zz :: zz :: zz :: zz :: zz :: zz :: zz :: zz :: zz :: zz :: zz :: zz :: zz :: zz :: zz :: zz :: zz :: zz :: zz :: zz :: zz :: zz :: zz :: zz :: zz :: zz :: zz :: zz :: zz :: zz :: zz :: zz :: zz :: zz :: zz :: zz :: zz :: zz :: zz :: []),[(9003,.row 2 (.int .i64) (chN aa k) []),(9005,.row 2 (.int .i64) (fsN aa k k) []),(9010,.row 2 (.int .i64) (convN (chN aa k) (fsN aa k k) i) [])]⟩) (fun k''=>k+1 - k''.1) ⟨0,by omega,by omega⟩ ?_ ?_
    ·
     refine oK ?_
     simp (maxSteps:=2000000)only[go_sem]
     all_goals ((repeat' refine And.intro ?_ ?_)<;>first | rfl | exact (cvS_0 _ _ _).symm | (congr 1; exact (cvS_0 _ _ _).symm) | (congr 1; done) | (simp; done))
    rintro ⟨j,hj,hj2⟩ K36 hL36
    refine oS fun _ hK37=>?_
    refine oS fun _ hK38=>?_
    refine oW T_l04Mul_ok ?_
    simp (maxSteps:=2000000)only[go_sem]
    repeat' (with_reducible first | refine oA ?_ | refine oT (fun g24=>?_) (fun g24=>?_) | refine oE (fun g24=>?_) (fun g24=>?_))
    all_goals
     refine hK38 _ ?_
     refine AWP_cond rfl ?_ ?_
     ·
      intro c4
      try simp only[zA,zB,zC,zD,zE,zF,zG,zH,zI] at c4
      all_goals
       have hji:j≤i:=by omega
       have hjk:j≤k:=by omega
       have hwj:IntKind.i64.wrap ((i:Int) - (j:Int))=((i - j:Nat):Int):=by rw [wrapI (by omega)]; omega
       have hcv:wrap32 (cvS (chN aa k) (fsN aa k k) i j+(fsN aa k k).getD (i - j) 0 * (chN aa k).getD j 0)=cvS (chN aa k) (fsN aa k k) i (j+1):=by rw [Int.mul_comm]; exact (cvS_next hji).symm
       refine AWP_skip ?_
       simp only[go_sem]
       refine hK37 _ ?_
       refine oS fun _ hK39=>?_
       refine AWP_block ?_
       refine oR T_l04Mul_ok
         [[],[],[],[],[2,3],[1,2,3,4],[1,2,3,4,5],[],[],[7,8],[7,8,9],[1,2,3,4,5,6,7,8,9,10],[0,1,2,3,4,5,6,7,8,9,10,11],[0,1,2,3,4,5,6,7,8,9,10,11,12]]
         [[],[],[],[],[],[],[],[],[],[],[],[],[],[]]
         [[],[],[],[],[],[],[],[],[],[],[],[],[],[]] (by kernel_rfl) (by kernel_rfl) (adrawR_ok (acc:=[]) ?_)
       simp (maxSteps:=2000000)only[w32_ar,hwj,hcv,hfl2,hcl2,Int.toNat_natCast,go_sem]
       repeat (with_reducible first | refine oD ?_ | refine And.intro (by first | omega) ?_)
       refine hK39 _ ?_
       refine oW T_l04Mul_ok ?_
       simp only[go_sem]
       refine hL36 ⟨j+1,by omega,by omega⟩ _ (oK ?_) ?_
       ·
        simp (maxSteps:=2000000)only[go_sem]
        all_goals ((repeat' refine And.intro ?_ ?_)<;>first | rfl | exact wk (by omega) | (congr 1; done))
       ·
        first | (simp only[]; omega) | omega | (simp; omega)
     ·
      intro c4
      try simp only[zA,zB,zC,zD,zE,zF,zG,zH,zI] at c4
      all_goals
       have hcf:cvS (chN aa k) (fsN aa k k) i j=wrap32 (pm (cf (chN aa k)) (cf (fsN aa k k)) i):=cvS_full (by rw [chN_len]; omega)
       have hnx:convN (chN aa k) (fsN aa k k) i++[cvS (chN aa k) (fsN aa k k) i j]=convN (chN aa k) (fsN aa k k) (i+1):=by rw [hcf]; exact convN_next _ _ _
       refine AWP_exit ?_
       simp only[go_sem]
       refine hK34 _ ?_
       refine oW T_l04Mul_ok ?_
       simp (maxSteps:=2000000)only[convN_len,go_sem]
       repeat (with_reducible refine oA ?_)
       refine hK32 _ ?_
       refine oW T_l04Mul_ok ?_
       simp only[go_sem]
       refine hL29 ⟨i+1,by omega⟩ _ (oK ?_) ?_
       ·
        simp (maxSteps:=2000000)only[go_sem]
        all_goals ((repeat' refine And.intro ?_ ?_)<;>first | rfl | exact wk (by omega) | exact hnx | (congr 1; exact hnx) | (congr 1; done))
       ·
        first | (simp only[]; omega) | omega | (simp; omega)
   intro c3
   have hie:i=k+2:=by omega
   have hch:convN (chN aa k) (fsN aa k k) i=chN aa (k+1):=by rw [hie]; exact chN_next aa k
   refine AWP_exit ?_
   simp only[go_sem]
   refine hK27 _ ?_
   refine oW T_l04Mul_ok ?_
   simp only[go_sem]
   refine hK8 _ ?_
   refine oW T_l04Mul_ok ?_
   simp only[go_sem]
   refine hL5 ⟨k+1,by omega⟩ _ (oK ?_) ?_
   ·
    simp (maxSteps:=2000000)only[go_sem]
    all_goals ((repeat' refine And.intro ?_ ?_)<;>first | rfl | exact wk (by omega) | exact hch | (congr 1; exact hch) | (congr 1; done))
   ·
    first | (simp only[]; omega) | omega | (simp; omega)
  intro c0
  have hke:k=aa.length:=by omega
  refine AWP_exit ?_
  simp only[go_sem]
  refine hK3 _ ?_
  refine oS fun _ hK40=>?_
  refine oW T_l04Mul_ok ?_
  simp only[go_sem]
  refine hK40 _ ?_
  refine AWP_ret ?_
  simp only[hres,go_sem]
  first | exact oF | (refine ⟨?_,oF⟩; rw [hke])
def T_l09Char:Tab:=fun f=>if f=152 then some (.p K_l09Char) else T_l04Mul f
theorem T_l09Char_ok:TabOk Tryz.prog T_l09Char:=tabP l09Char_ok (fnOk_of Tryz.func152 rfl (by decide)) T_l04Mul_ok
attribute [go_sem] T_l09Char K_l09Char
def K_l09Response:Con:=⟨[.ptr (.prod (.int .i64) (.prod (.row 26 (.row 2 (.int .i64))) (.prod (.row 26 (.row 2 (.int .i64))) (.prod (.row 26 (.row 2 (.int .i64))) (.row 26 (.row 2 (.int .i64))))))),.val (.int .i64),.val (.int .i64),.val (.int .i64)],[⟨(.row 2 (.int .i64)),true⟩],fun x=>linW x.1 x.1.2.1.length∧x.1.2.1.length≤1000∧x.1.2.2.2.1.length≤1000∧0≤x.2.1∧(0≤x.2.2.1∧x.2.2.1 < x.1.2.2.2.1.length)∧inR x.2.2.2.1 0 100000=true,fun x=>rspL x.1 x.2.1 x.2.2.1 (Int.toNat x.2.2.2.1)⟩
theorem l09Response_ok:PureT Tryz.prog 154 K_l09Response:=by
  refine pure_of_body Tryz.func154 rfl ?_
  have hres:Tryz.f154.results.toList=[.tmp 8]:=rfl
  rintro ⟨⟨(ni:Int),(la:List (List Int)),(lb:List (List Int)),(lc:List (List Int)),(ld:List (List Int))⟩,(ii:Int),(oo:Int),(nn:Int),_⟩ hc hL
  simp only[K_l09Response,go_sem] at hL
  simp only[K_l09Response,St.init,St.initG,Tryz.ntmps154,go_sem] 
  obtain ⟨hW,ha1,hc1,hi0,⟨ho0,ho1⟩,hnr⟩:=(show linW (ni,la,lb,lc,ld) la.length∧la.length≤1000∧lc.length≤1000∧0≤ii∧(0≤oo∧oo < lc.length)∧inR nn 0 100000=true from hc)
  obtain ⟨hn1,hn2⟩:=inR_iff.1 hnr
  have hi4:0≤ni∧ni≤4:=⟨hW.i0,hW.i4⟩
  have hlr:inR (la.length:Int) 0 1099511627776=true:=inR_t (by omega) (by omega)
  have hir:inR ni 0 1099511627776=true:=inR_t (by omega) (by omega)
  have hiu:inR ni 0 1099511627776=true∧0≤ii:=⟨hir,hi0⟩
  refine oS fun _ hK1=>?_
  refine oW T_l09Char_ok ?_
  simp only[go_sem]
  refine hK1 _ ?_
  refine oS fun _ hK2=>?_
  refine oW T_l09Char_ok ?_
  simp only[List.nodup_nil,go_sem]
  repeat (with_reducible refine oA ?_)
  refine hK2 _ ?_
  refine oS fun _ hK3=>?_
  refine oW T_l09Char_ok ?_
  simp (maxSteps:=2000000)only[go_sem]
  repeat (with_reducible first | refine oA ?_ | refine And.intro (by first | exact hlr) ?_)
  refine hK3 _ ?_
  refine oS fun _ hK4=>?_
  refine oW T_l09Char_ok ?_
  simp (maxSteps:=2000000)only[go_sem]
  repeat (with_reducible first | refine oA ?_ | refine And.intro (by first | exact hiu) ?_)
  refine hK4 _ ?_
  refine oS fun _ hK5=>?_
  refine oS fun _ hK6=>?_
  refine oW T_l09Char_ok ?_
  simp only[go_sem]
  refine hK6 _ ?_
  refine AWP_block ?_
  refine AWP_loop_k (ι:={ t:Nat // t≤nn.toNat }) (fun k=>⟨[.c (.pt [] ((.prod (.int .i64) (.prod (.row 26 (.row 2 (.int .i64))) (.prod (.row 26 (.row 2 (.int .i64))) (.prod (.row 26 (.row 2 (.int .i64))) (.row 26 (.row 2 (.int .i64)))))))) (ni,la,lb,lc,ld) 0),zz,.c (.sc (.int .i64 (oo))),.c (.sc (.int .i64 (nn))),zz,zz,zz,zz,zz,.c (.ow 9009),.c (.ow 9010),.c (.ow 9011),.c (.sc (.int .i64 (k.1))),zz,zz,zz,zz,zz,zz,zz,zz,zz,zz,zz,zz,zz,zz,zz,zz,zz,zz,zz,zz,zz,zz,zz,zz,zz,zz,zz,zz,zz,zz,zz,zz,zz,zz,zz,zz,zz,zz,zz,zz,zz],[(9009,.row 2 (.int .i64) (rspL (ni,la,lb,lc,ld) ii oo k.1) []),(9010,.row 2 (.int .i64) (rspS (ni,la,lb,lc,ld) ii k.1) []),(9011,.row 2 (.int .i64) (rspF (ni,la,lb,lc,ld) ii k.1) [])]⟩) (fun k=>nn.toNat - k.1) ⟨0,by omega⟩ ?_ ?_
  ·
   refine oK ?_
   simp (maxSteps:=2000000)only[go_sem]
   all_goals ((repeat' refine And.intro ?_ ?_)<;>first | rfl | (congr 1; done) | (simp [rspS,rspF,zerL]; done))
  rintro ⟨t,ht⟩ K7 hL7
  have hrl:=rspL_len (ni,la,lb,lc,ld) ii oo t
  refine oS fun _ hK8=>?_
  refine oS fun _ hK9=>?_
  refine oW T_l09Char_ok ?_
  simp only[go_sem]
  refine hK9 _ ?_
  refine oC rfl ?_ ?_
  ·
   intro c0
   have hst:=rsp_stepC (x:=(ni,la,lb,lc,ld)) hW ha1 hc1 ii t
   rcases hq0:stepL (ni,la,lb,lc,ld) (rspS (ni,la,lb,lc,ld) ii t) (rspF (ni,la,lb,lc,ld) ii t) with ⟨v1,v2⟩
   have hv1:v1=rspS (ni,la,lb,lc,ld) ii (t+1):=by have:=rsp_step (ni,la,lb,lc,ld) ii t; rw [hq0] at this; exact congrArg Prod.fst this
   have hv2:v2=rspO (ni,la,lb,lc,ld) ii t:=by have:=rsp_step (ni,la,lb,lc,ld) ii t; rw [hq0] at this; exact congrArg Prod.snd this
   have hol:v2.length=lc.length:=by rw [hv2]; exact rspO_len _ _ _
   have hnx:rspL (ni,la,lb,lc,ld) ii oo t++[v2.getD oo.toNat 0]=rspL (ni,la,lb,lc,ld) ii oo (t+1):=by rw [hv2]; exact rspL_next _ _ _ _
   refine AWP_skip ?_
   simp only[go_sem]
   refine hK8 _ ?_
   refine oS fun _ hK10=>?_
   refine AWP_block ?_
   refine oS fun _ hK11=>?_
   refine oW T_l09Char_ok ?_
   simp (maxSteps:=2000000)only[hq0,go_sem]
   repeat (with_reducible first | refine oA ?_ | refine And.intro (by first | exact hst) ?_)
   refine hK11 _ ?_
   refine oS fun _ hK12=>?_
   refine oW T_l09Char_ok ?_
   simp (maxSteps:=2000000)only[hrl,go_sem]
   repeat (with_reducible first | refine oA ?_ | refine And.intro (by first | omega) ?_)
   refine hK12 _ ?_
   refine oS fun _ hK13=>?_
   refine oW T_l09Char_ok ?_
   simp only[go_sem]
   refine hK13 _ ?_
   refine oW T_l09Char_ok ?_
   simp (maxSteps:=2000000)only[go_sem]
   repeat (with_reducible first | refine oA ?_ | refine And.intro (by first | exact hir) ?_)
   refine hK10 _ ?_
   refine oW T_l09Char_ok ?_
   simp only[go_sem]
   refine hL7 ⟨t+1,by omega⟩ _ (oK ?_) ?_
   ·
    simp (maxSteps:=2000000)only[go_sem]
    all_goals ((repeat' refine And.intro ?_ ?_)<;>first | rfl | exact wk (by omega) | exact hnx | (congr 1; exact hnx) | exact hv1 | (congr 1; exact hv1) | (congr 1; done))
   ·
    first | (simp only[]; omega) | omega | (simp; omega)
  intro c0
  have hte:t=nn.toNat:=by omega
  refine AWP_exit ?_
  simp only[go_sem]
  refine hK5 _ ?_
  refine oS fun _ hK14=>?_
  refine oW T_l09Char_ok ?_
  simp only[go_sem]
  refine hK14 _ ?_
  refine AWP_ret ?_
  simp only[hres,go_sem]
  first | exact oF | (refine ⟨?_,oF⟩; rw [hte])
def T_l09Response:Tab:=fun f=>if f=154 then some (.p K_l09Response) else T_l09Char f
theorem T_l09Response_ok:TabOk Tryz.prog T_l09Response:=tabP l09Response_ok (fnOk_of Tryz.func154 rfl (by decide)) T_l09Char_ok
attribute [go_sem] T_l09Response K_l09Response
end Go.Proofs.YtflaacndokbddaaGreat
