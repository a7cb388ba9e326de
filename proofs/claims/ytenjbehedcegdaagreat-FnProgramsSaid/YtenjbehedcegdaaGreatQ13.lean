/-
  Texts of this claim, joined (part 13). No condition beyond those of the theorems.
-/
import Derived.Test.YtenjbehedcegdaaGreatQ12
namespace Go.Proofs.YtenjbehedcegdaaGreat
open Go.RowKit
set_option linter.unusedSimpArgs false
set_option linter.unusedVariables false
set_option maxRecDepth 100000
set_option maxHeartbeats 16000000
def T9:Con:=⟨[.val ((.prod (.int .i64) (.prod (.row 26 (.row 2 (.int .i64))) (.prod (.row 67 (.prod (.int .i64) (.prod (.int .i64) (.prod (.int .i64) (.row 2 (.int .i64)))))) (.row 2 (.int .i64))))))],[⟨(.prod (.int .i64) (.prod (.int .i64) (.prod (.row 26 (.row 2 (.int .i64))) (.prod (.row 64 (.prod (.int .i64) (.prod (.int .i64) (.prod (.int .i64) (.prod (.int .i64) (.prod (.row 2 (.int .i64)) (.int .i64))))))) (.row 2 (.int .i64)))))),true⟩],fun x=>G3 x.1=true,fun x=>M4 x.1⟩
theorem A6n:C8 Tryz.prog 18 T9:=by
  refine A4 Tryz.func18 rfl ?_
  have hres:Tryz.f18.results.toList=[.cell 2 33]:=rfl
  rintro⟨⟨(pi:Int),(ts:List (List Int)),(ns:List B1),(os:List Int)⟩,_⟩ hc hL
  simp only[T9,go_sem] at hL
  obtain⟨⟨lts,lts2⟩,⟨lns,lns2⟩,los⟩:=hL
  simp only[T9,St.init,St.initG,Tryz.ntmps18,go_sem] 
  have hP:G3 (pi,ts,ns,os)=true:=hc
  have hF:=(E1 hP).1
  have hn24:ns.length≤24:=(C0 hF).1
  have ho4:os.length≤4:=(C0 hF).2.1
  obtain⟨hcx,hcd,hcl⟩:=Q5 hF
  have hcx:∀y∈C1 ns,X1 ns.length y:=hcx
  have hcl:(C1 ns).length≤48:=hcl
  have hcd:B7t (C1 ns):=hcd
  have hos:N2 ns.length os=true:=(C0 hF).2.2.2.2.2.1
  have hll:(K0 ns.length (C1 ns) os).length=ns.length:=B4D
  have hzc:I6 (ns.length:Int) 0 1099511627776=true:=L8 (by omega) (by omega)
  have hfl:B35 ts:=⟨by have:=(z6 (C0 hF).2.2.1).1;simp only at this;omega,fun l hl=>by have:=((z6 (C0 hF).2.2.1).2 l hl).1;omega⟩
  refine oS fun _ hK1=>?_;refine oW B9 ?_;simp only[go_sem];refine hK1 _ ?_;refine oS fun _ hK2=>?_
  refine oR B9
    [[],[0],[],[2],[2,3],[0,1,2,3,4],[],[0,1,2,3,4,5,6]]
    [[148,340,341,342,343,344,345,346,347,348,349,350,351,352,353,354,355],[148,340,341,342,343,344,345,346,347,348,349,350,351,352,353,354,355],[148],[148],[148],[148],[340,341,342,343,344,345,346,347,348,349,350,351,352,353,354,355],[]]
    [[],[],[],[],[340,341,342,343,344,345,346,347,348,349,350,351,352,353,354,355],[],[148],[]] (by kernel_rfl) (by kernel_rfl) (A7 (acc:=[]) ?_)
  simp (maxSteps:=2000000)only[go_sem];repeat(with_reducible first|refine oD ?_|refine And.intro (by first|exact hfl) ?_)
  refine hK2 _ ?_;refine oS fun _ hK3=>?_;refine oW B9 ?_;simp only[go_sem];repeat(with_reducible first|refine oA ?_|refine And.intro (by first|exact hP) ?_)
  refine hK3 _ ?_;refine oS fun _ hK4=>?_
  refine oR B9
    [[],[],[0,1],[],[3],[0,1,2,3,4],[0,1,2,3,4,5],[0,1,2,3,4,5,6],[0,1,2,3,4,5,6,7]]
    [[],[],[],[436,437,438,439,440,441,442,443,444,445,446,447,448,449,450,451],[436,437,438,439,440,441,442,443,444,445,446,447,448,449,450,451],[],[],[],[]]
    [[],[],[436,437,438,439,440,441,442,443,444,445,446,447,448,449,450,451],[],[],[],[],[],[]] (by kernel_rfl) (by kernel_rfl) (A7 (acc:=[]) ?_)
  simp (maxSteps:=2000000)only[go_sem];repeat(with_reducible first|refine oD ?_|refine And.intro (by first|exact⟨hcx,hos,by omega,by omega⟩|exact hzc) ?_)
  refine hK4 _ ?_;refine oS fun _ hK5=>?_;refine oW B9 ?_;simp only[List.nodup_nil,go_sem];repeat(with_reducible refine oA ?_)
  refine hK5 _ ?_;refine oS fun _ hK6=>?_;refine oS fun _ hK7=>?_;refine oW B9 ?_;simp only[go_sem];refine hK7 _ ?_;refine A3 ?_;refine A0j (A4K _ 148 3 9002 64 ((.prod (.int .i64) (.prod (.int .i64) (.prod (.int .i64) (.prod (.int .i64) (.prod (.row 2 (.int .i64)) (.int .i64))))))) (by decide)) ?_;simp (maxSteps:=2000000)only[go_sem];refine A8 (ι:={ t:Nat // t≤(C1 ns).length }) (fun k=>⟨[zz,.c (.po 116 0),.c (.po 132 0),.c (.po 148 0),zz,.c (.ow 9003),.c (.ow 9004),.c (.ow 9005),zz,zz,zz,zz,zz,zz,zz,zz,zz,zz,zz,zz,zz,zz,zz,zz,zz,zz,zz,.c (.ow 9006),.c (.sc (.int .i64 ((C1 ns).length))),.c (.sc (.int .i64 (k.1))),zz,zz,zz,zz,zz,zz,zz,zz,zz,zz,zz,zz,zz,zz,zz,zz,zz,zz,zz,zz,zz,zz,zz,zz,zz,zz,zz,zz,zz,zz,zz,zz,zz,zz,zz,zz,zz,zz,zz,zz,zz,zz,zz,zz,zz,zz,zz,zz,zz,zz,zz,zz,zz,zz,zz,zz,zz,zz,zz,zz,zz,zz,zz,zz],[(116,.box [.sc (.int .i64 (pi)),.rd [] 26 ((.row 2 (.int .i64))) (ts),.rd [] 67 ((.prod (.int .i64) (.prod (.int .i64) (.prod (.int .i64) (.row 2 (.int .i64)))))) (ns),.rd [] 2 (.int .i64) (os)]),(132,.box [.sc (.int .i64 (0)),.sc (.int .i64 (0)),.sc (.slice none 0 0),.sc (.slice none 0 0),.sc (.slice none 0 0)]),(148,.box [.sc (.int .i64 (pi)),.sc (.int .i64 (0)),.ow 9001,.ow 9002,.sc (.slice none 0 0)]),(9001,.tree 26 (.row 2 (.int .i64)) (ts) none),(9002,.tree 64 (.prod (.int .i64) (.prod (.int .i64) (.prod (.int .i64) (.prod (.int .i64) (.prod (.row 2 (.int .i64)) (.int .i64)))))) ((D4 (K0 ns.length (C1 ns) os) (C1 ns) ns.length k.1).2.2) none),(9003,.row 2 (.int .i64) ((K0 ns.length (C1 ns) os)) []),(9004,.row 2 (.int .i64) ((D4 (K0 ns.length (C1 ns) os) (C1 ns) ns.length k.1).2.1) []),(9005,.row 2 (.int .i64) ((D4 (K0 ns.length (C1 ns) os) (C1 ns) ns.length k.1).1) []),(9006,.tree 64 (.prod (.int .i64) (.prod (.int .i64) (.prod (.int .i64) (.prod (.int .i64) (.prod (.row 2 (.int .i64)) (.int .i64)))))) ((C1 ns)) none)]⟩) (fun k=>(C1 ns).length - k.1) ⟨0,by simp⟩ ?_ ?_
  ·
   refine oK ?_;simp (maxSteps:=2000000)only[go_sem];all_goals((repeat' refine And.intro ?_ ?_)<;>first|rfl|exact List.length_replicate|(congr 1;done)|(simp;done))
  rintro⟨t,ht⟩ K8 hL8
  have hA:HeldOk ns.length (C1 ns) t (D4 (K0 ns.length (C1 ns) os) (C1 ns) ns.length t):=A7L hcx hcd t (by omega)
  have hAr:=hA.regs
  have hAo:=hA.out
  have hAs:=hA.small
  have hxo:t < (C1 ns).length→X1 ns.length ((C1 ns).getD t ((0,0,0,0,[],0):A1)):=fun h=>hcx _ (C6 h)
  refine oS fun _ hK9=>?_;refine oW B9 ?_;simp only[go_sem];refine hK9 _ ?_;refine oS fun _ hK10=>?_;refine oC rfl ?_ ?_
  ·
   intro c0;obtain⟨⟨hx1,hx2⟩,hx3,hx4⟩:=hxo (by omega)
   have hx3:N2 ns.length ((C1 ns).getD t ((0,0,0,0,[],0):A1)).2.2.2.2.1=true:=hx3
   have hx4:((C1 ns).getD t ((0,0,0,0,[],0):A1)).2.2.2.2.1.length≤3:=hx4
   have hmc:((C1 ns).getD t ((0,0,0,0,[],0):A1)).2.2.2.2.1.length≤1000∧N2 (D4 (K0 ns.length (C1 ns) os) (C1 ns) ns.length t).2.1.length ((C1 ns).getD t ((0,0,0,0,[],0):A1)).2.2.2.2.1=true:=⟨by omega,by rw[hAr];exact hx3⟩
   have hml:(List.map (fun q=>(D4 (K0 ns.length (C1 ns) os) (C1 ns) ns.length t).2.1.getD (Int.toNat q) 0) ((C1 ns).getD t ((0,0,0,0,[],0):A1)).2.2.2.2.1).length=((C1 ns).getD t ((0,0,0,0,[],0):A1)).2.2.2.2.1.length:=List.length_map _
   refine A2 ?_;simp only[go_sem];refine hK10 _ ?_;refine oS fun _ hK11=>?_;refine A3 ?_;refine oS fun _ hK12=>?_;refine oW B9 ?_;simp (maxSteps:=2000000)only[go_sem];repeat(with_reducible refine oA ?_)
   refine hK12 _ ?_;refine oS fun _ hK13=>?_;refine oW B9 ?_;simp (maxSteps:=2000000)only[List.nodup_nil,go_sem];repeat(with_reducible first|refine oA ?_|refine And.intro (by first|exact hmc) ?_)
   refine hK13 _ ?_;refine oS fun _ hK14=>?_;refine oS fun _ hK15=>?_;refine oW B9 ?_;simp only[go_sem];repeat(with_reducible refine oA ?_)
   refine hK15 _ ?_;refine oC rfl ?_ ?_
   ·
    intro c1;refine oS fun _ hK16=>?_;refine oW B9 ?_;simp only[go_sem];refine hK16 _ ?_;refine oS fun _ hK17=>?_;refine A3 ?_;refine A8 (ι:={ r:Nat // r≤(D4 (K0 ns.length (C1 ns) os) (C1 ns) ns.length t).1.length∧∀j,j < r→(t:Int) < (K0 ns.length (C1 ns) os).getD ((D4 (K0 ns.length (C1 ns) os) (C1 ns) ns.length t).1.getD j 0).toNat 0 }) (fun k'=>⟨[zz,.c (.po 116 0),.c (.po 132 0),.c (.po 148 0),zz,.c (.ow 9003),.c (.ow 9004),.c (.ow 9005),.c (.sc (.int .i64 (t))),.c (.po 244 0),.c (.sc (.int .i64 (k'.1))),zz,zz,zz,zz,zz,zz,zz,zz,zz,zz,zz,zz,zz,zz,zz,zz,.c (.ow 9006),.c (.sc (.int .i64 ((C1 ns).length))),.c (.sc (.int .i64 (t))),zz,zz,zz,zz,zz,zz,zz,zz,zz,zz,zz,zz,zz,zz,zz,zz,zz,zz,zz,zz,zz,zz,zz,zz,zz,zz,zz,zz,zz,zz,zz,zz,zz,zz,zz,zz,zz,zz,zz,zz,zz,zz,zz,zz,zz,zz,zz,zz,zz,zz,zz,zz,zz,zz,zz,zz,zz,zz,zz,zz,zz,zz,zz,zz],[(116,.box [.sc (.int .i64 (pi)),.rd [] 26 ((.row 2 (.int .i64))) (ts),.rd [] 67 ((.prod (.int .i64) (.prod (.int .i64) (.prod (.int .i64) (.row 2 (.int .i64)))))) (ns),.rd [] 2 (.int .i64) (os)]),(132,.box [.sc (.int .i64 (0)),.sc (.int .i64 (0)),.sc (.slice none 0 0),.sc (.slice none 0 0),.sc (.slice none 0 0)]),(148,.box [.sc (.int .i64 (pi)),.sc (.int .i64 (0)),.ow 9001,.ow 9002,.sc (.slice none 0 0)]),(9001,.tree 26 (.row 2 (.int .i64)) (ts) none),(9002,.tree 64 (.prod (.int .i64) (.prod (.int .i64) (.prod (.int .i64) (.prod (.int .i64) (.prod (.row 2 (.int .i64)) (.int .i64)))))) ((D4 (K0 ns.length (C1 ns) os) (C1 ns) ns.length t).2.2) none),(9003,.row 2 (.int .i64) ((K0 ns.length (C1 ns) os)) []),(9004,.row 2 (.int .i64) ((D4 (K0 ns.length (C1 ns) os) (C1 ns) ns.length t).2.1) []),(9005,.row 2 (.int .i64) ((D4 (K0 ns.length (C1 ns) os) (C1 ns) ns.length t).1) []),(9006,.tree 64 (.prod (.int .i64) (.prod (.int .i64) (.prod (.int .i64) (.prod (.int .i64) (.prod (.row 2 (.int .i64)) (.int .i64)))))) ((C1 ns)) none),(244,.box [.sc (.int .i64 (((C1 ns).getD t ((0,0,0,0,[],0):A1)).1)),.sc (.int .i64 (((C1 ns).getD t ((0,0,0,0,[],0):A1)).2.1)),.sc (.int .i64 (((C1 ns).getD t ((0,0,0,0,[],0):A1)).2.2.1)),.sc (.int .i64 (((C1 ns).getD t ((0,0,0,0,[],0):A1)).2.2.2.1)),.ow 9007,.sc (.int .i64 (((C1 ns).getD t ((0,0,0,0,[],0):A1)).2.2.2.2.2))]),(9007,.row 2 (.int .i64) (m6 (D4 (K0 ns.length (C1 ns) os) (C1 ns) ns.length t).2.1 ((C1 ns).getD t ((0,0,0,0,[],0):A1)).2.2.2.2.1) [])]⟩) (fun k'=>(D4 (K0 ns.length (C1 ns) os) (C1 ns) ns.length t).1.length - k'.1) ⟨0,by simp,fun j hj=>absurd hj (Nat.not_lt_zero _)⟩ ?_ ?_
    ·
     refine oK ?_;simp (maxSteps:=2000000)only[go_sem];all_goals((repeat' refine And.intro ?_ ?_)<;>first|rfl|exact List.length_replicate|(congr 1;done)|(simp;done))
    rintro⟨r,hr,hrp⟩ K18 hL18
    have hrg:r < (D4 (K0 ns.length (C1 ns) os) (C1 ns) ns.length t).1.length→0≤(D4 (K0 ns.length (C1 ns) os) (C1 ns) ns.length t).1.getD r 0∧(D4 (K0 ns.length (C1 ns) os) (C1 ns) ns.length t).1.getD r 0 < ns.length:=fun h=>hA.rng r h
    refine oS fun _ hK19=>?_;refine oS fun _ hK20=>?_;refine oW B9 ?_;simp (maxSteps:=2000000)only[go_sem];repeat' (with_reducible first|refine oA ?_|refine And.intro (by first|omega) ?_|refine oT (fun g11=>?_) (fun g11=>?_)|refine oE (fun g11=>?_) (fun g11=>?_))
    all_goals
     refine hK20 _ ?_;refine D5 rfl ?_ ?_
     ·
      intro c2;try simp only[zA,zB,zC,zD,zE,zF,zG,zH,zI] at c2
      all_goals
       refine A2 ?_;simp only[go_sem];refine hK19 _ ?_;refine A3 ?_;refine oW B9 ?_;simp only[go_sem];refine hL18 ⟨r+1,by omega,fun j hj=>by rcases Nat.lt_succ_iff_lt_or_eq.1 hj with h|h;exact hrp j h;subst h;omega⟩ _ (oK ?_) ?_
       ·
        simp (maxSteps:=2000000)only[go_sem];all_goals((repeat' refine And.intro ?_ ?_)<;>first|rfl|exact wk (by omega))
       ·
        first|(simp only[];omega)|omega|(simp;omega)
     ·
      intro c2;try simp only[zA,zB,zC,zD,zE,zF,zG,zH,zI] at c2
      all_goals
       have hfree:freeR (K0 ns.length (C1 ns) os) t (D4 (K0 ns.length (C1 ns) os) (C1 ns) ns.length t).1=r:=B6s hr hrp (fun h=>by omega)
       obtain⟨hst1,hst2,hst3⟩:=B0Y (last:=(K0 ns.length (C1 ns) os)) (n:=ns.length) (show ¬((C1 ns).getD t x0).1=18 from c1) hfree
       refine B6 ?_;simp only[go_sem];refine hK17 _ ?_;refine oS fun _ hK21=>?_;refine oS fun _ hK22=>?_;refine oW B9 ?_;simp only[go_sem];repeat(with_reducible refine oA ?_)
       refine hK22 _ ?_;refine D5 rfl ?_ ?_
       ·
        intro c3;try simp only[zA,zB,zC,zD,zE,zF,zG,zH,zI] at c3
        all_goals
         refine oW B9 ?_;simp only[List.nodup_nil,go_sem];repeat(with_reducible first|refine oA ?_|refine And.intro (by first|omega) ?_)
         refine hK21 _ ?_
         refine oR B9
           [[],[],[],[],[3],[],[5],[],[],[0,1,5,6],[0,1,5,6,9],[0,1,2,3,4,5,6,7,9,10],[0,1,2,3,4,5,6,7,9,10,11],[0,1,2,3,4,5,6,7,8,9,10,11,12],[0,1,2,3,4,5,6,7,8,9,10,11,12,13]]
           [[],[],[1140,9005],[1140,9005],[1140,9005],[],[],[1140,9005],[1140,9004,9005],[],[],[],[],[],[]]
           [[],[],[],[],[],[],[],[],[],[],[1140,9005],[],[9004],[],[]] (by kernel_rfl) (by kernel_rfl) (A7 (acc:=[]) ?_)
         simp (maxSteps:=2000000)only[List.nodup_nil,List.length_append,List.length_singleton,List.length_cons,List.length_nil,go_sem];repeat(with_reducible first|refine oD ?_|refine And.intro (by first|omega) ?_)
         refine hK14 _ ?_;refine oW B9 ?_;simp (maxSteps:=2000000)only[List.nodup_cons,List.nodup_nil,List.not_mem_nil,not_false_eq_true,go_sem];repeat(with_reducible first|refine oA ?_|refine And.intro (by first|omega) ?_)
         refine hK11 _ ?_;refine oW B9 ?_;simp only[go_sem];refine hL8 ⟨t+1,by omega⟩ _ (oK ?_) ?_
         ·
          simp (maxSteps:=2000000)only[go_sem];all_goals((repeat' refine And.intro ?_ ?_)<;>first|rfl|exact wk (by omega)|(rw[hst1];done)|(rw[hst1];first|rfl|exact(B1o (by omega)).symm|exact(B1L (by omega)).symm)|(rw[hst2];done)|(rw[hst2];rfl)|(rw[hst3];done)|(rw[hst3];rfl)|(congr 1;first|(rw[hst3];done)|(rw[hst3];rfl))|(congr 1;done))
         ·
          first|(simp only[];omega)|omega|(simp;omega)
       ·
        intro c3;try simp only[zA,zB,zC,zD,zE,zF,zG,zH,zI] at c3
        all_goals
         refine A2 ?_;simp only[go_sem];refine hK21 _ ?_
         refine oR B9
           [[],[],[],[],[3],[],[5],[],[],[0,1,5,6],[0,1,5,6,9],[0,1,2,3,4,5,6,7,9,10],[0,1,2,3,4,5,6,7,9,10,11],[0,1,2,3,4,5,6,7,8,9,10,11,12],[0,1,2,3,4,5,6,7,8,9,10,11,12,13]]
           [[],[],[1140,9005],[1140,9005],[1140,9005],[],[],[1140,9005],[1140,9004,9005],[],[],[],[],[],[]]
           [[],[],[],[],[],[],[],[],[],[],[1140,9005],[],[9004],[],[]] (by kernel_rfl) (by kernel_rfl) (A7 (acc:=[]) ?_)
         simp (maxSteps:=2000000)only[List.nodup_nil,List.length_append,List.length_singleton,List.length_cons,List.length_nil,go_sem];repeat(with_reducible first|refine oD ?_|refine And.intro (by first|omega) ?_)
         refine hK14 _ ?_;refine oW B9 ?_;simp (maxSteps:=2000000)only[List.nodup_cons,List.nodup_nil,List.not_mem_nil,not_false_eq_true,go_sem];repeat(with_reducible first|refine oA ?_|refine And.intro (by first|omega) ?_)
         refine hK11 _ ?_;refine oW B9 ?_;simp only[go_sem];refine hL8 ⟨t+1,by omega⟩ _ (oK ?_) ?_
         ·
          simp (maxSteps:=2000000)only[go_sem];all_goals((repeat' refine And.intro ?_ ?_)<;>first|rfl|exact wk (by omega)|(rw[hst1];done)|(rw[hst1];first|rfl|exact(B1o (by omega)).symm|exact(B1L (by omega)).symm)|(rw[hst2];done)|(rw[hst2];rfl)|(rw[hst3];done)|(rw[hst3];rfl)|(congr 1;first|(rw[hst3];done)|(rw[hst3];rfl))|(congr 1;done))
         ·
          first|(simp only[];omega)|omega|(simp;omega)
   intro c1;obtain⟨hst1,hst2,hst3⟩:=B0f (last:=(K0 ns.length (C1 ns) os)) (n:=ns.length) (show ((C1 ns).getD t x0).1=18 from c1)
   refine A2 ?_;simp only[go_sem];refine hK14 _ ?_;refine oW B9 ?_;simp (maxSteps:=2000000)only[List.nodup_cons,List.nodup_nil,List.not_mem_nil,not_false_eq_true,go_sem];repeat(with_reducible first|refine oA ?_|refine And.intro (by first|omega) ?_)
   refine hK11 _ ?_;refine oW B9 ?_;simp only[go_sem];refine hL8 ⟨t+1,by omega⟩ _ (oK ?_) ?_
   ·
    simp (maxSteps:=2000000)only[go_sem];all_goals((repeat' refine And.intro ?_ ?_)<;>first|rfl|exact wk (by omega)|(rw[hst1];done)|(rw[hst1];first|rfl|exact(B1o (by omega)).symm|exact(B1L (by omega)).symm)|(rw[hst2];done)|(rw[hst2];rfl)|(rw[hst3];done)|(rw[hst3];rfl)|(congr 1;first|(rw[hst3];done)|(rw[hst3];rfl))|(congr 1;done))
   ·
    first|(simp only[];omega)|omega|(simp;omega)
  intro c0;have hmo:os.length≤1000∧N2 (D4 (K0 ns.length (C1 ns) os) (C1 ns) ns.length t).2.1.length os=true:=⟨by omega,by rw[hAr];exact hos⟩
  refine B6 ?_;simp only[go_sem];refine hK6 _ ?_;refine oS fun _ hK23=>?_;refine oW B9 ?_;simp only[go_sem];repeat(with_reducible refine oA ?_)
  refine hK23 _ ?_;refine oS fun _ hK24=>?_;refine oW B9 ?_;simp (maxSteps:=2000000)only[List.nodup_nil,go_sem];repeat(with_reducible first|refine oA ?_|refine And.intro (by first|exact hmo) ?_)
  refine hK24 _ ?_;refine oS fun _ hK25=>?_;refine oW B9 ?_;simp only[go_sem];repeat(with_reducible refine oA ?_)
  refine hK25 _ ?_;refine A0 ?_;simp only[hres,go_sem]
  first
   | exact oF
   | refine ⟨?_, oF⟩
     have hk3:t=(C1 ns).length:=by omega
     clear hK1 hK2 hK3 hK4 hK5 hK6 hK7 hL8 hK9 hK10 hK23 hK24 hK25;subst hk3
     rfl
def A02:G4:=fun f=>if f=18 then some (.p T9) else A1r f
theorem Q3:B5 Tryz.prog A02:=F8 A6n (B0 Tryz.func18 rfl (by decide)) B9
attribute [go_sem] A02 T9
def j0:Con:=⟨[.val ((.prod (.int .i64) (.prod (.row 26 (.row 2 (.int .i64))) (.prod (.row 67 (.prod (.int .i64) (.prod (.int .i64) (.prod (.int .i64) (.row 2 (.int .i64)))))) (.row 2 (.int .i64))))))],[⟨(.prod (.int .i64) (.prod (.int .i64) (.prod (.row 26 (.row 2 (.int .i64))) (.prod (.row 64 (.prod (.int .i64) (.prod (.int .i64) (.prod (.int .i64) (.prod (.int .i64) (.prod (.row 2 (.int .i64)) (.int .i64))))))) (.row 2 (.int .i64)))))),true⟩,⟨.int .i64,true⟩],fun _=>True,fun x=>A4l x.1⟩
theorem A95:C8 Tryz.prog 6 j0:=by
  refine A4 Tryz.func6 rfl ?_
  have hres:Tryz.f6.results.toList=[.cell 2 33,.tmp 3]:=rfl
  rintro⟨⟨(pi:Int),(ts:List (List Int)),(ns:List B1),(os:List Int)⟩,_⟩ hc hL
  simp only[j0,go_sem] at hL
  simp only[j0,St.init,St.initG,Tryz.ntmps6,go_sem] 
  refine oS fun _ hK1=>?_;refine oW Q3 ?_;simp only[go_sem];refine hK1 _ ?_;refine oS fun _ hK2=>?_;refine oS fun _ hK3=>?_;refine oW Q3 ?_;simp only[go_sem];repeat(with_reducible refine oA ?_)
  refine hK3 _ ?_;refine oC rfl ?_ ?_
  ·
   intro c0;refine oS fun _ hK4=>?_;refine oW Q3 ?_;simp only[go_sem];repeat(with_reducible refine oA ?_)
   refine hK4 _ ?_;refine A0 ?_;simp only[hres,go_sem];first|exact oF|(refine⟨?_,oF⟩;first|(rw[A8y c0];exact⟨rfl,rfl⟩)|(rw[A8y c0]))
  intro c0;refine A2 ?_;simp only[go_sem];refine hK2 _ ?_;refine oS fun _ hK5=>?_;refine oW Q3 ?_;simp only[go_sem];repeat(with_reducible first|refine oA ?_|refine And.intro (by first|exact c0) ?_)
  refine hK5 _ ?_;refine A0 ?_;simp only[hres,go_sem];first|exact oF|(refine⟨?_,oF⟩;first|(rw[A5N c0];exact⟨rfl,rfl⟩)|(rw[A5N c0]))
def A1V:G4:=fun f=>if f=6 then some (.p j0) else A02 f
theorem A5X:B5 Tryz.prog A1V:=F8 A95 (B0 Tryz.func6 rfl (by decide)) Q3
attribute [go_sem] A1V j0
end Go.Proofs.YtenjbehedcegdaaGreat
