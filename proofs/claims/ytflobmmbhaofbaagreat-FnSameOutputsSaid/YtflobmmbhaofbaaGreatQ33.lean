/-
  Texts of this claim, joined (part 33). No condition beyond those of the theorems.
-/
import Derived.Test.YtflobmmbhaofbaaGreatQ32
import Derived.Test.YtflobmmbhaofbaaGreatQ07
import Derived.Test.YtflobmmbhaofbaaGreatQ15
import Derived.Test.YtflobmmbhaofbaaGreatQ23
namespace Go.Proofs.YtflobmmbhaofbaaGreat
open Go.RowKit
set_option linter.unusedSimpArgs false
set_option linter.unusedVariables false
set_option maxRecDepth 100000
set_option maxHeartbeats 8000000
def B0w:F8:=fun f=>match A3V f with
 | some k=>some k
 | none=>l4 f
theorem B4j:B8 Tryz.prog B0w:=T3 G0 L6
attribute [go_sem] B0w T0
def B27:F8:=fun f=>match B0w f with
 | some k=>some k
 | none=>A7R f
theorem H5:B8 Tryz.prog B27:=T3 B4j A8O
attribute [go_sem] B27 T0
def A2P:Con:=⟨[.val ((.row 2 (.int .i64))),.val (.int .i64)],[⟨(.row 2 (.int .i64)),true⟩],fun x=>x.1.length≤1000000,fun x=>T1 x.1 x.2.1⟩
theorem B8d:D4 Tryz.prog 82 A2P:=by
  refine A7 Tryz.func82 rfl ?_
  have hres:Tryz.f82.results.toList=[.tmp 4]:=rfl
  rintro⟨(xs:List Int),(m:Int),_⟩ hc hL
  simp only[A2P,go_sem] at hL
  simp only[A2P,St.init,St.initG,Tryz.ntmps82,go_sem] 
  have hxl:xs.length≤1000000:=hc
  refine oS fun _ hK1=>?_;refine oW H5 ?_;simp only[go_sem];refine hK1 _ ?_;refine oS fun _ hK2=>?_;refine oW H5 ?_;simp only[go_sem];repeat(with_reducible refine oA ?_)
  refine hK2 _ ?_;refine oS fun _ hK3=>?_;refine oW H5 ?_;simp only[go_sem];refine hK3 _ ?_;refine oS fun _ hK4=>?_;refine oS fun _ hK5=>?_;refine oW H5 ?_;simp only[go_sem];refine hK5 _ ?_;refine A5 ?_;refine B4 (ι:={ s:Nat × Bool × List Int // s.1≤xs.length∧s.2.2.length≤s.1+1∧(s.2.1=false→s.2.2=xs.take s.1∧∀x∈xs.take s.1,x < m)∧(s.2.1=true→s.2.2++xs.drop s.1=T1 xs m) }) (fun k=>⟨[.c (.rd [] 2 (.int .i64) (xs)),.c (.sc (.int .i64 (m))),zz,zz,zz,.c (.ow 9001),.c (.sc (.bool (k.1.2.1))),.c (.sc (.int .i64 (k.1.1))),zz,zz,zz,zz,zz,zz,zz,zz,zz,zz,zz,zz,zz,zz,zz,zz,zz,zz,zz,zz,zz,zz,zz,zz,zz,zz,zz,zz,zz,zz,zz,zz,zz,zz,zz,zz,zz,zz,zz,zz,zz],[(9001,.row 2 (.int .i64) (k.1.2.2) [])]⟩) (fun k=>xs.length - k.1.1) ⟨(0,false,[]),by simp,by simp,fun _=>⟨by simp,by simp⟩,fun h=>by cases h⟩ ?_ ?_
  ·
   refine oK ?_;simp (maxSteps:=2000000)only[go_sem];all_goals(first|rfl|((repeat' refine And.intro ?_ ?_)<;>first|rfl|simp))
  rintro⟨⟨k,dn,ou⟩,hk,hol,hf,ht⟩ K6 hL6
  simp only at hk hol hf ht
  refine oS fun _ hK7=>?_;refine oS fun _ hK8=>?_;refine oW H5 ?_;simp only[go_sem];refine hK8 _ ?_;refine oC rfl ?_ ?_
  ·
   intro c0;refine A3 ?_;simp only[go_sem];refine hK7 _ ?_;refine oS fun _ hK9=>?_;refine A5 ?_;refine oS fun _ hK10=>?_;refine oS fun _ hK11=>?_;refine oW H5 ?_;simp (maxSteps:=2000000)only[go_sem];repeat' (with_reducible first|refine oA ?_|refine oT (fun g6=>?_) (fun g6=>?_)|refine oE (fun g6=>?_) (fun g6=>?_))
   all_goals
    refine hK11 _ ?_;refine D2 rfl ?_ ?_
    ·
     intro c1;try simp only[zA,zB,zC,zD,zE,zF,zG,zH,zI] at c1
     all_goals
      have hdn:dn=false:=by clear hK1 hK2 hK3 hK4 hK5 hL6 hK7 hK8 hK9 hK10 hK11;cases dn<;>simp_all
      have hle:m≤xs.getD k 0:=by clear hK1 hK2 hK3 hK4 hK5 hL6 hK7 hK8 hK9 hK10 hK11;simp_all
      obtain⟨hou,hlt⟩:=hf hdn
      subst hou;refine oS fun _ hK12=>?_;refine oW H5 ?_;simp only[go_sem];refine hK12 _ ?_;refine oS fun _ hK13=>?_;refine oW H5 ?_;simp (maxSteps:=2000000)only[go_sem];repeat(with_reducible refine oA ?_)
      refine hK13 _ ?_;refine D2 rfl ?_ ?_
      ·
       intro c2;try simp only[zA,zB,zC,zD,zE,zF,zG,zH,zI] at c2
       all_goals
        have hnew:=C28 (show k < xs.length by omega) hlt (show m < xs.getD k 0 by omega)
        refine oW H5 ?_;simp (maxSteps:=2000000)only[go_sem];repeat(with_reducible first|refine oA ?_|refine And.intro (by first|omega) ?_)
        refine hK10 _ ?_;refine oW H5 ?_;simp (maxSteps:=2000000)only[go_sem];repeat(with_reducible first|refine oA ?_|refine And.intro (by first|omega) ?_)
        refine hK9 _ ?_;refine oW H5 ?_;simp only[go_sem];first|(refine hL6 ⟨(k+1,true,xs.take k++[m]++[xs.getD k 0]),by omega,by simp only[List.length_append,List.length_take,List.length_singleton];omega,(fun h=>by cases h),fun _=>hnew⟩ _ (oK ?_) ?_)|(refine hL6 ⟨(k+1,true,xs.take k++[xs.getD k 0]),by omega,by simp only[List.length_append,List.length_take,List.length_singleton];omega,(fun h=>by cases h),fun _=>hnew⟩ _ (oK ?_) ?_)|(refine hL6 ⟨(k+1,dn,ou++[xs.getD k 0]),by omega,by simp only[List.length_append,List.length_singleton];omega,(fun h=>⟨by obtain⟨e,_⟩:=hf h;subst e;exact(G7 (d:=0) (by omega)).symm,B2I (by omega) (hf h).2 (hnk h)⟩),fun h=>A9G (by omega) (ht h)⟩ _ (oK ?_) ?_)
        ·
         simp (maxSteps:=2000000)only[go_sem];all_goals(first|rfl|((repeat' refine And.intro ?_ ?_)<;>first|rfl|exact wk (by omega)|simp))
        ·
         first|(simp only[];omega)|omega|(simp;omega)
      ·
       intro c2;try simp only[zA,zB,zC,zD,zE,zF,zG,zH,zI] at c2
       all_goals
        have hnew:=C1W (show k < xs.length by omega) hlt (show xs.getD k 0=m by omega)
        refine A3 ?_;simp only[go_sem];refine hK10 _ ?_;refine oW H5 ?_;simp (maxSteps:=2000000)only[go_sem];repeat(with_reducible first|refine oA ?_|refine And.intro (by first|omega) ?_)
        refine hK9 _ ?_;refine oW H5 ?_;simp only[go_sem];first|(refine hL6 ⟨(k+1,true,xs.take k++[m]++[xs.getD k 0]),by omega,by simp only[List.length_append,List.length_take,List.length_singleton];omega,(fun h=>by cases h),fun _=>hnew⟩ _ (oK ?_) ?_)|(refine hL6 ⟨(k+1,true,xs.take k++[xs.getD k 0]),by omega,by simp only[List.length_append,List.length_take,List.length_singleton];omega,(fun h=>by cases h),fun _=>hnew⟩ _ (oK ?_) ?_)|(refine hL6 ⟨(k+1,dn,ou++[xs.getD k 0]),by omega,by simp only[List.length_append,List.length_singleton];omega,(fun h=>⟨by obtain⟨e,_⟩:=hf h;subst e;exact(G7 (d:=0) (by omega)).symm,B2I (by omega) (hf h).2 (hnk h)⟩),fun h=>A9G (by omega) (ht h)⟩ _ (oK ?_) ?_)
        ·
         simp (maxSteps:=2000000)only[go_sem];all_goals(first|rfl|((repeat' refine And.intro ?_ ?_)<;>first|rfl|exact wk (by omega)|simp))
        ·
         first|(simp only[];omega)|omega|(simp;omega)
    ·
     intro c1;try simp only[zA,zB,zC,zD,zE,zF,zG,zH,zI] at c1
     all_goals
      have hnk:dn=false→xs.getD k 0 < m:=fun h=>by clear hK1 hK2 hK3 hK4 hK5 hL6 hK7 hK8 hK9 hK10 hK11;simp_all
      refine A3 ?_;simp only[go_sem];refine hK10 _ ?_;refine oW H5 ?_;simp (maxSteps:=2000000)only[go_sem];repeat(with_reducible first|refine oA ?_|refine And.intro (by first|omega) ?_)
      refine hK9 _ ?_;refine oW H5 ?_;simp only[go_sem];first|(refine hL6 ⟨(k+1,true,xs.take k++[m]++[xs.getD k 0]),by omega,by simp only[List.length_append,List.length_take,List.length_singleton];omega,(fun h=>by cases h),fun _=>hnew⟩ _ (oK ?_) ?_)|(refine hL6 ⟨(k+1,true,xs.take k++[xs.getD k 0]),by omega,by simp only[List.length_append,List.length_take,List.length_singleton];omega,(fun h=>by cases h),fun _=>hnew⟩ _ (oK ?_) ?_)|(refine hL6 ⟨(k+1,dn,ou++[xs.getD k 0]),by omega,by simp only[List.length_append,List.length_singleton];omega,(fun h=>⟨by obtain⟨e,_⟩:=hf h;subst e;exact(G7 (d:=0) (by omega)).symm,B2I (by omega) (hf h).2 (hnk h)⟩),fun h=>A9G (by omega) (ht h)⟩ _ (oK ?_) ?_)
      ·
       simp (maxSteps:=2000000)only[go_sem];all_goals(first|rfl|((repeat' refine And.intro ?_ ?_)<;>first|rfl|exact wk (by omega)|simp))
      ·
       first|(simp only[];omega)|omega|(simp;omega)
  intro c0;refine C2 ?_;simp only[go_sem];refine hK4 _ ?_;refine oS fun _ hK14=>?_;refine oS fun _ hK15=>?_;refine oW H5 ?_;simp only[go_sem];repeat(with_reducible refine oA ?_)
  refine hK15 _ ?_;refine oC rfl ?_ ?_
  ·
   intro c3;refine oW H5 ?_;simp (maxSteps:=2000000)only[go_sem];repeat(with_reducible first|refine oA ?_|refine And.intro (by first|omega) ?_)
   refine hK14 _ ?_;refine oS fun _ hK16=>?_;refine oW H5 ?_;simp only[go_sem];refine hK16 _ ?_;refine A2 ?_;simp only[hres,go_sem]
   first
    | exact oF
    | refine ⟨?_, oF⟩
      have hke:k=xs.length:=by omega
      clear hK1 hK2 hK3 hK4 hK5 hL6 hK7 hK8 hK14 hK15 hK16;subst hke;first|exact A53 hf (by assumption)|exact A4b ht (by assumption)|exact A53 hf (by simp_all)|exact A4b ht (by simp_all)
  intro c3;refine A3 ?_;simp only[go_sem];refine hK14 _ ?_;refine oS fun _ hK17=>?_;refine oW H5 ?_;simp only[go_sem];refine hK17 _ ?_;refine A2 ?_;simp only[hres,go_sem]
  first
   | exact oF
   | refine ⟨?_, oF⟩
     have hke:k=xs.length:=by omega
     clear hK1 hK2 hK3 hK4 hK5 hL6 hK7 hK8 hK14 hK15 hK17;subst hke;first|exact A53 hf (by assumption)|exact A4b ht (by assumption)|exact A53 hf (by simp_all)|exact A4b ht (by simp_all)
def A8N:F8:=fun f=>if f=82 then some (.p A2P) else B27 f
theorem G2:B8 Tryz.prog A8N:=F9 B8d (B6 Tryz.func82 rfl (by decide)) H5
attribute [go_sem] A8N A2P
def r8:Con:=⟨[.ptr (.prod (.int .i64) (.prod (.row 26 (.row 2 (.int .i64))) (.prod (.row 56 (.prod (.int .i64) (.prod (.int .i64) (.prod (.int .i64) (.row 2 (.int .i64)))))) (.row 2 (.int .i64)))))],[⟨(.row 2 (.int .i64)),true⟩],fun x=>C5 x.1=true,fun x=>F0 x.1⟩
theorem B0j:D4 Tryz.prog 54 r8:=by
  refine A7 Tryz.func54 rfl ?_
  have hres:Tryz.f54.results.toList=[.tmp 2]:=rfl
  rintro⟨⟨(pi:Int),(ts:List (List Int)),(ns:List A4),(os:List Int)⟩,_⟩ hc hL
  simp only[r8,go_sem] at hL
  obtain⟨⟨lts,lts2⟩,⟨lns,lns2⟩,los⟩:=hL
  simp only[r8,St.init,St.initG,Tryz.ntmps54,go_sem] 
  have hF:C5 (pi,ts,ns,os)=true:=hc
  have hn24:ns.length≤24:=(A8 hF).1
  have ho4:os.length≤4:=(A8 hF).2.1
  refine oS fun _ hK1=>?_;refine oW G2 ?_;simp only[go_sem];refine hK1 _ ?_;refine oS fun _ hK2=>?_;refine oW G2 ?_;simp only[List.nodup_nil,go_sem];repeat(with_reducible refine oA ?_)
  refine hK2 _ ?_;refine oS fun _ hK3=>?_;refine oS fun _ hK4=>?_;refine oW G2 ?_;simp only[go_sem];refine hK4 _ ?_;refine A5 ?_;refine B4 (ι:={ k:Nat // k≤os.length }) (fun k=>⟨[.c (.pt [] ((.prod (.int .i64) (.prod (.row 26 (.row 2 (.int .i64))) (.prod (.row 56 (.prod (.int .i64) (.prod (.int .i64) (.prod (.int .i64) (.row 2 (.int .i64)))))) (.row 2 (.int .i64)))))) (pi,ts,ns,os) 0),zz,zz,.c (.ow 9003),.c (.sc (.int .i64 (k.1))),zz,zz,zz,zz,zz,zz,zz,zz,zz,zz,zz,zz,zz,zz,zz,zz,zz,zz,zz,zz,zz,zz,zz,zz,zz,zz,zz,zz,zz,zz,zz,zz,zz,zz,zz,zz,zz,zz,zz,zz,zz,zz,zz,zz,zz,zz,zz,zz,zz,zz,zz,zz,zz,zz,zz,zz,zz,zz,zz,zz,zz,zz,zz,zz],[(9003,.row 2 (.int .i64) (N6 [] (os.take k.1)) [])]⟩) (fun k=>os.length - k.1) ⟨0,by simp⟩ ?_ ?_
  ·
   refine oK ?_;simp (maxSteps:=2000000)only[go_sem];all_goals(first|rfl|((repeat' refine And.intro ?_ ?_)<;>first|rfl|simp))
  rintro⟨k,hk⟩ K5 hL5
  have hps:(N6 [] (os.take k)).length≤4:=B8I hF k
  refine oS fun _ hK6=>?_;refine oS fun _ hK7=>?_;refine oW G2 ?_;simp (maxSteps:=2000000)only[go_sem];repeat(with_reducible refine oA ?_)
  refine hK7 _ ?_;refine oC rfl ?_ ?_
  ·
   intro c0;have hnx:=A7d (l:=[]) (m:=os) (k:=k) (by omega)
   refine A3 ?_;simp only[go_sem];refine hK6 _ ?_;refine oS fun _ hK8=>?_;refine A5 ?_;refine oW G2 ?_;simp (maxSteps:=2000000)only[go_sem];repeat(with_reducible first|refine oA ?_|refine And.intro (by first|exact Nat.le_trans hps (by decide)) ?_)
   refine hK8 _ ?_;refine oW G2 ?_;simp only[go_sem];refine hL5 ⟨k+1,by omega⟩ _ (oK ?_) ?_
   ·
    simp (maxSteps:=2000000)only[go_sem];all_goals((repeat' refine And.intro ?_ ?_)<;>first|rfl|exact wk (by omega)|exact hnx.symm|(congr 1;exact hnx.symm)|(congr 1;done))
   ·
    first|(simp only[];omega)|omega|(simp;omega)
  intro c0;have hte:os.take k=os:=List.take_of_length_le (by omega)
  refine C2 ?_;simp only[go_sem];refine hK3 _ ?_;refine oS fun _ hK9=>?_;refine oS fun _ hK10=>?_;refine oW G2 ?_;simp only[go_sem];refine hK10 _ ?_;refine A5 ?_;refine B4 (ι:={ s:List Int × Bool // NOk (pi,ts,ns,os) s.1∧(s.2=false→B0b (pi,ts,ns,os) s.1) }) (fun s=>⟨[.c (.pt [] ((.prod (.int .i64) (.prod (.row 26 (.row 2 (.int .i64))) (.prod (.row 56 (.prod (.int .i64) (.prod (.int .i64) (.prod (.int .i64) (.row 2 (.int .i64)))))) (.row 2 (.int .i64)))))) (pi,ts,ns,os) 0),zz,zz,.c (.ow 9003),zz,.c (.sc (.bool (s.1.2))),zz,zz,zz,zz,zz,zz,zz,zz,zz,zz,zz,zz,zz,zz,zz,zz,zz,zz,zz,zz,zz,zz,zz,zz,zz,zz,zz,zz,zz,zz,zz,zz,zz,zz,zz,zz,zz,zz,zz,zz,zz,zz,zz,zz,zz,zz,zz,zz,zz,zz,zz,zz,zz,zz,zz,zz,zz,zz,zz,zz,zz,zz,zz],[(9003,.row 2 (.int .i64) (s.1.1) [])]⟩) (fun s=>2 * (ns.length - s.1.1.length)+s.1.2.toNat) ⟨(N6 [] os,true),B9c hF,fun h=>by cases h⟩ ?_ ?_
  ·
   refine oK ?_;simp (maxSteps:=2000000)only[go_sem];all_goals((repeat' refine And.intro ?_ ?_)<;>first|rfl|(rw[hte];done)|(congr 1;rw[hte];done)|(congr 1;done))
  rintro⟨⟨l,bg⟩,hN,hC⟩ K11 hL11
  simp only at hN hC
  have hll:l.length≤24:=Nat.le_trans hN.len hn24
  refine oS fun _ hK12=>?_;refine oS fun _ hK13=>?_;refine oW G2 ?_;simp only[go_sem];refine hK13 _ ?_;refine oC rfl ?_ ?_
  ·
   intro c1;refine A3 ?_;simp only[go_sem];refine hK12 _ ?_;refine A5 ?_;refine oS fun _ hK14=>?_;refine oW G2 ?_;simp only[go_sem];refine hK14 _ ?_;refine oS fun _ hK15=>?_;refine oW G2 ?_;simp only[go_sem];repeat(with_reducible first|refine oA ?_|refine And.intro (by first|exact Nat.le_trans hll (by decide)) ?_)
   refine hK15 _ ?_;refine oS fun _ hK16=>?_;refine oS fun _ hK17=>?_;refine oW G2 ?_;simp only[go_sem];refine hK17 _ ?_;refine A5 ?_;refine B4 (ι:={ k:Nat // k≤l.length }) (fun k'=>⟨[.c (.pt [] ((.prod (.int .i64) (.prod (.row 26 (.row 2 (.int .i64))) (.prod (.row 56 (.prod (.int .i64) (.prod (.int .i64) (.prod (.int .i64) (.row 2 (.int .i64)))))) (.row 2 (.int .i64)))))) (pi,ts,ns,os) 0),zz,zz,.c (.ow 9003),zz,zz,.c (.sc (.int .i64 (l.length))),.c (.ow 9007),.c (.sc (.int .i64 (k'.1))),zz,zz,zz,zz,zz,zz,zz,zz,zz,zz,zz,zz,zz,zz,zz,zz,zz,zz,zz,zz,zz,zz,zz,zz,zz,zz,zz,zz,zz,zz,zz,zz,zz,zz,zz,zz,zz,zz,zz,zz,zz,zz,zz,zz,zz,zz,zz,zz,zz,zz,zz,zz,zz,zz,zz,zz,zz,zz,zz,zz],[(9003,.row 2 (.int .i64) ((x4 ns l k'.1)) []),(9007,.row 2 (.int .i64) (l) [])]⟩) (fun k'=>l.length - k'.1) ⟨0,by simp⟩ ?_ ?_
   ·
    refine oK ?_;simp (maxSteps:=2000000)only[go_sem];all_goals((repeat' refine And.intro ?_ ?_)<;>first|rfl|(congr 1;done))
   rintro⟨k,hk⟩ K18 hL18
   refine oS fun _ hK19=>?_;refine oS fun _ hK20=>?_;refine oW G2 ?_;simp only[go_sem];refine hK20 _ ?_;refine oC rfl ?_ ?_
   ·
    intro c2;obtain⟨hr1,hr2,hr3⟩:=hN.rng _ (B9 (d:=(0:Int)) (show k < l.length by omega))
    have hr2:l.getD k 0 < (ns.length:Int):=hr2
    have hfl3:(ns.getD (l.getD k 0).toNat ((0,0,0,[]):A4)).2.2.2.length≤1000:=Nat.le_trans (A2w hF _ (show (l.getD k 0).toNat < ns.length by omega)).1 (by decide)
    refine A3 ?_;simp only[go_sem];refine hK19 _ ?_;refine oS fun _ hK21=>?_;refine A5 ?_;refine oS fun _ hK22=>?_
    refine oR G2
      [[],[0],[0,1],[0,1,2],[],[],[4,5],[4,5,6],[0,1,2,3,4,5,6,7],[0,1,2,3,4,5,6,7,8],[0,1,2,3,4,5,6,7,8,9],[0,1,2,3,4,5,6,7,8,9,10]]
      [[],[],[],[],[],[],[],[],[],[],[],[]]
      [[],[],[],[],[],[],[],[],[],[],[],[]] (by kernel_rfl) (by kernel_rfl) (B7 (acc:=[]) ?_)
    simp (maxSteps:=2000000)only[go_sem];repeat(with_reducible refine oD ?_)
    refine hK22 _ ?_;refine oS fun _ hK23=>?_;refine oW G2 ?_;simp only[go_sem];refine hK23 _ ?_;refine A5 ?_;refine B4 (ι:={ j:Nat // j≤(ns.getD (l.getD k 0).toNat ((0,0,0,[]):A4)).2.2.2.length }) (fun k''=>⟨[.c (.pt [] ((.prod (.int .i64) (.prod (.row 26 (.row 2 (.int .i64))) (.prod (.row 56 (.prod (.int .i64) (.prod (.int .i64) (.prod (.int .i64) (.row 2 (.int .i64)))))) (.row 2 (.int .i64)))))) (pi,ts,ns,os) 0),zz,zz,.c (.ow 9003),zz,zz,.c (.sc (.int .i64 (l.length))),.c (.ow 9007),.c (.sc (.int .i64 (k))),.c (.rd [] 2 (.int .i64) ((ns.getD (l.getD k 0).toNat ((0,0,0,[]):A4)).2.2.2)),.c (.sc (.int .i64 (k''.1))),zz,zz,zz,zz,zz,zz,zz,zz,zz,zz,zz,zz,zz,zz,zz,zz,zz,zz,zz,zz,zz,zz,zz,zz,zz,zz,zz,zz,zz,zz,zz,zz,zz,zz,zz,zz,zz,zz,zz,zz,zz,zz,zz,zz,zz,zz,zz,zz,zz,zz,zz,zz,zz,zz,zz,zz,zz,zz],[(9003,.row 2 (.int .i64) (N6 (x4 ns l k) ((ns.getD (l.getD k 0).toNat ((0,0,0,[]):A4)).2.2.2.take k''.1)) []),(9007,.row 2 (.int .i64) (l) [])]⟩) (fun k''=>(ns.getD (l.getD k 0).toNat ((0,0,0,[]):A4)).2.2.2.length - k''.1) ⟨0,by simp⟩ ?_ ?_
    ·
     refine oK ?_;simp (maxSteps:=2000000)only[go_sem];all_goals((repeat' refine And.intro ?_ ?_)<;>first|rfl|(congr 1;done))
    rintro⟨j,hj⟩ K24 hL24
    have hrp:(N6 (x4 ns l k) ((ns.getD (l.getD k 0).toNat ((0,0,0,[]):A4)).2.2.2.take j)).length≤ns.length+3:=B9j hF hN (by omega)
    refine oS fun _ hK25=>?_;refine oS fun _ hK26=>?_;refine oW G2 ?_;simp only[go_sem];refine hK26 _ ?_;refine oC rfl ?_ ?_
    ·
     intro c3;have hnf:=A7d (l:=x4 ns l k) (m:=(ns.getD (l.getD k 0).toNat ((0,0,0,[]):A4)).2.2.2) (k:=j) (by omega)
     refine A3 ?_;simp only[go_sem];refine hK25 _ ?_;refine oS fun _ hK27=>?_;refine A5 ?_;refine oW G2 ?_;simp (maxSteps:=2000000)only[go_sem];repeat(with_reducible first|refine oA ?_|refine And.intro (by first|exact Nat.le_trans hrp (by omega)) ?_)
     refine hK27 _ ?_;refine oW G2 ?_;simp only[go_sem];refine hL24 ⟨j+1,by omega⟩ _ (oK ?_) ?_
     ·
      simp (maxSteps:=2000000)only[go_sem];all_goals((repeat' refine And.intro ?_ ?_)<;>first|rfl|exact wk (by omega)|exact hnf.symm|(congr 1;exact hnf.symm)|(congr 1;done))
     ·
      first|(simp only[];omega)|omega|(simp;omega)
    intro c3;have hje:=B9R (ns:=ns) (l:=l) (k:=k) (F:=(ns.getD (l.getD k 0).toNat ((0,0,0,[]):A4)).2.2.2) rfl (j:=j) (by omega)
    refine C2 ?_;simp only[go_sem];refine hK21 _ ?_;refine oW G2 ?_;simp only[go_sem];refine hL18 ⟨k+1,by omega⟩ _ (oK ?_) ?_
    ·
     simp (maxSteps:=2000000)only[go_sem];all_goals((repeat' refine And.intro ?_ ?_)<;>first|rfl|exact wk (by omega)|exact hje|(congr 1;exact hje)|(congr 1;done))
    ·
     first|(simp only[];omega)|omega|(simp;omega)
   intro c2;have hke:k=l.length:=by omega
   have hNN:=B73 hF hN (Nat.le_refl _)
   refine C2 ?_;simp only[go_sem];refine hK16 _ ?_;refine oW G2 ?_;simp (maxSteps:=2000000)only[go_sem];refine hL11 ⟨(x4 ns l l.length,decide ((l.length:Int) < ((x4 ns l l.length).length:Int))),hNN,fun h=>B92 hN (show (x4 ns l l.length).length≤l.length by have:=of_decide_eq_false h;omega)⟩ _ (oK ?_) ?_
   ·
    simp (maxSteps:=2000000)only[go_sem];all_goals((repeat' refine And.intro ?_ ?_)<;>first|rfl|exact wk (by omega)|(rw[hke];done)|(congr 1;done))
   ·
    have h1:=hNN.len
    have h2:=hN.len
    have h1:(x4 ns l l.length).length≤ns.length:=h1
    have h2:l.length≤ns.length:=h2
    have h3:bg=true:=by assumption
    subst h3
    by_cases hd:(l.length:Int) < ((x4 ns l l.length).length:Int)
    · simp only[decide_eq_true hd,Bool.toNat_true];omega
    · have h4:=(B1t (ns:=ns) hN.srt l.length).2.2.1
      simp only[decide_eq_false hd,Bool.toNat_true,Bool.toNat_false];omega
  intro c1;refine C2 ?_;simp only[go_sem];refine hK9 _ ?_;refine oS fun _ hK28=>?_;refine oW G2 ?_;simp only[go_sem];refine hK28 _ ?_;refine A2 ?_;simp only[hres,go_sem]
  first
   | exact oF
   | refine ⟨?_, oF⟩
     have hbg:bg=false:=by assumption
     exact hN.fin hF (hC hbg)
def A2z:F8:=fun f=>if f=54 then some (.p r8) else A8N f
theorem A8s:B8 Tryz.prog A2z:=F9 B0j (B6 Tryz.func54 rfl (by decide)) G2
attribute [go_sem] A2z r8
def A8L:F8:=A2z
theorem B2u:B8 Tryz.prog A8L:=A8s
attribute [go_sem] A8L
end Go.Proofs.YtflobmmbhaofbaaGreat
