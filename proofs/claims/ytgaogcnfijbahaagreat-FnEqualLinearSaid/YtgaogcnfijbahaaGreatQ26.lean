/-
  Texts of this claim, joined (part 26). No condition beyond those of the theorems.
-/
import Derived.Test.YtgaogcnfijbahaaGreatQ25
import Derived.Test.YtgaogcnfijbahaaGreatQ07
import Derived.Test.YtgaogcnfijbahaaGreatQ23
import Derived.Test.YtgaogcnfijbahaaGreatQ15
namespace Go.Proofs.YtgaogcnfijbahaaGreat
open Go.RowKit
set_option linter.unusedSimpArgs false
set_option linter.unusedVariables false
set_option maxRecDepth 100000
set_option maxHeartbeats 8000000
def B2f:E4:=fun f=>match A4O f with
 | some k=>some k
 | none=>n6 f
theorem B7q:B4 Tryz.prog B2f:=N2 B2y L8
attribute [go_sem] B2f T0
def B3U:E4:=fun f=>match B2f f with
 | some k=>some k
 | none=>A8S f
theorem G8:B4 Tryz.prog B3U:=N2 B7q B0g
attribute [go_sem] B3U T0
def A3Z:Con:=⟨[.val ((.row 2 (.int .i64))),.val (.int .i64)],[⟨(.row 2 (.int .i64)),true⟩],fun x=>x.1.length≤1000000,fun x=>U4 x.1 x.2.1⟩
theorem C0H:C9 Tryz.prog 71 A3Z:=by
  refine A4 Tryz.func71 rfl ?_
  have hres:Tryz.f71.results.toList=[.tmp 4]:=rfl
  rintro⟨(xs:List Int),(m:Int),_⟩ hc hL
  simp only[A3Z,go_sem] at hL
  simp only[A3Z,St.init,St.initG,Tryz.ntmps71,go_sem] 
  have hxl:xs.length≤1000000:=hc
  refine oS fun _ hK1=>?_;refine oW G8 ?_;simp only[go_sem];refine hK1 _ ?_;refine oS fun _ hK2=>?_;refine oW G8 ?_;simp only[go_sem];repeat(with_reducible refine oA ?_)
  refine hK2 _ ?_;refine oS fun _ hK3=>?_;refine oW G8 ?_;simp only[go_sem];refine hK3 _ ?_;refine oS fun _ hK4=>?_;refine oS fun _ hK5=>?_;refine oW G8 ?_;simp only[go_sem];refine hK5 _ ?_;refine A1 ?_;refine A7 (ι:={ s:Nat × Bool × List Int // s.1≤xs.length∧s.2.2.length≤s.1+1∧(s.2.1=false→s.2.2=xs.take s.1∧∀x∈xs.take s.1,x < m)∧(s.2.1=true→s.2.2++xs.drop s.1=U4 xs m) }) (fun k=>⟨[.c (.rd [] 2 (.int .i64) (xs)),.c (.sc (.int .i64 (m))),zz,zz,zz,.c (.ow 9001),.c (.sc (.bool (k.1.2.1))),.c (.sc (.int .i64 (k.1.1))),zz,zz,zz,zz,zz,zz,zz,zz,zz,zz,zz,zz,zz,zz,zz,zz,zz,zz,zz,zz,zz,zz,zz,zz,zz,zz,zz,zz,zz,zz,zz,zz,zz,zz,zz,zz,zz,zz,zz,zz,zz],[(9001,.row 2 (.int .i64) (k.1.2.2) [])]⟩) (fun k=>xs.length - k.1.1) ⟨(0,false,[]),by simp,by simp,fun _=>⟨by simp,by simp⟩,fun h=>by cases h⟩ ?_ ?_
  ·
   refine oK ?_;simp (maxSteps:=2000000)only[go_sem];all_goals(first|rfl|((repeat' refine And.intro ?_ ?_)<;>first|rfl|simp))
  rintro⟨⟨k,dn,ou⟩,hk,hol,hf,ht⟩ K6 hL6
  simp only at hk hol hf ht
  refine oS fun _ hK7=>?_;refine oS fun _ hK8=>?_;refine oW G8 ?_;simp only[go_sem];refine hK8 _ ?_;refine oC rfl ?_ ?_
  ·
   intro c0;refine A2 ?_;simp only[go_sem];refine hK7 _ ?_;refine oS fun _ hK9=>?_;refine A1 ?_;refine oS fun _ hK10=>?_;refine oS fun _ hK11=>?_;refine oW G8 ?_;simp (maxSteps:=2000000)only[go_sem];repeat' (with_reducible first|refine oA ?_|refine oT (fun g6=>?_) (fun g6=>?_)|refine oE (fun g6=>?_) (fun g6=>?_))
   all_goals
    refine hK11 _ ?_;refine E2 rfl ?_ ?_
    ·
     intro c1;try simp only[zA,zB,zC,zD,zE,zF,zG,zH,zI] at c1
     all_goals
      have hdn:dn=false:=by clear hK1 hK2 hK3 hK4 hK5 hL6 hK7 hK8 hK9 hK10 hK11;cases dn<;>simp_all
      have hle:m≤xs.getD k 0:=by clear hK1 hK2 hK3 hK4 hK5 hL6 hK7 hK8 hK9 hK10 hK11;simp_all
      obtain⟨hou,hlt⟩:=hf hdn
      subst hou;refine oS fun _ hK12=>?_;refine oW G8 ?_;simp only[go_sem];refine hK12 _ ?_;refine oS fun _ hK13=>?_;refine oW G8 ?_;simp (maxSteps:=2000000)only[go_sem];repeat(with_reducible refine oA ?_)
      refine hK13 _ ?_;refine E2 rfl ?_ ?_
      ·
       intro c2;try simp only[zA,zB,zC,zD,zE,zF,zG,zH,zI] at c2
       all_goals
        have hnew:=C5W (show k < xs.length by omega) hlt (show m < xs.getD k 0 by omega)
        refine oW G8 ?_;simp (maxSteps:=2000000)only[go_sem];repeat(with_reducible first|refine oA ?_|refine And.intro (by first|omega) ?_)
        refine hK10 _ ?_;refine oW G8 ?_;simp (maxSteps:=2000000)only[go_sem];repeat(with_reducible first|refine oA ?_|refine And.intro (by first|omega) ?_)
        refine hK9 _ ?_;refine oW G8 ?_;simp only[go_sem];first|(refine hL6 ⟨(k+1,true,xs.take k++[m]++[xs.getD k 0]),by omega,by simp only[List.length_append,List.length_take,List.length_singleton];omega,(fun h=>by cases h),fun _=>hnew⟩ _ (oK ?_) ?_)|(refine hL6 ⟨(k+1,true,xs.take k++[xs.getD k 0]),by omega,by simp only[List.length_append,List.length_take,List.length_singleton];omega,(fun h=>by cases h),fun _=>hnew⟩ _ (oK ?_) ?_)|(refine hL6 ⟨(k+1,dn,ou++[xs.getD k 0]),by omega,by simp only[List.length_append,List.length_singleton];omega,(fun h=>⟨by obtain⟨e,_⟩:=hf h;subst e;exact(E7 (d:=0) (by omega)).symm,B3u (by omega) (hf h).2 (hnk h)⟩),fun h=>B01 (by omega) (ht h)⟩ _ (oK ?_) ?_)
        ·
         simp (maxSteps:=2000000)only[go_sem];all_goals(first|rfl|((repeat' refine And.intro ?_ ?_)<;>first|rfl|exact wk (by omega)|simp))
        ·
         first|(simp only[];omega)|omega|(simp;omega)
      ·
       intro c2;try simp only[zA,zB,zC,zD,zE,zF,zG,zH,zI] at c2
       all_goals
        have hnew:=C4f (show k < xs.length by omega) hlt (show xs.getD k 0=m by omega)
        refine A2 ?_;simp only[go_sem];refine hK10 _ ?_;refine oW G8 ?_;simp (maxSteps:=2000000)only[go_sem];repeat(with_reducible first|refine oA ?_|refine And.intro (by first|omega) ?_)
        refine hK9 _ ?_;refine oW G8 ?_;simp only[go_sem];first|(refine hL6 ⟨(k+1,true,xs.take k++[m]++[xs.getD k 0]),by omega,by simp only[List.length_append,List.length_take,List.length_singleton];omega,(fun h=>by cases h),fun _=>hnew⟩ _ (oK ?_) ?_)|(refine hL6 ⟨(k+1,true,xs.take k++[xs.getD k 0]),by omega,by simp only[List.length_append,List.length_take,List.length_singleton];omega,(fun h=>by cases h),fun _=>hnew⟩ _ (oK ?_) ?_)|(refine hL6 ⟨(k+1,dn,ou++[xs.getD k 0]),by omega,by simp only[List.length_append,List.length_singleton];omega,(fun h=>⟨by obtain⟨e,_⟩:=hf h;subst e;exact(E7 (d:=0) (by omega)).symm,B3u (by omega) (hf h).2 (hnk h)⟩),fun h=>B01 (by omega) (ht h)⟩ _ (oK ?_) ?_)
        ·
         simp (maxSteps:=2000000)only[go_sem];all_goals(first|rfl|((repeat' refine And.intro ?_ ?_)<;>first|rfl|exact wk (by omega)|simp))
        ·
         first|(simp only[];omega)|omega|(simp;omega)
    ·
     intro c1;try simp only[zA,zB,zC,zD,zE,zF,zG,zH,zI] at c1
     all_goals
      have hnk:dn=false→xs.getD k 0 < m:=fun h=>by clear hK1 hK2 hK3 hK4 hK5 hL6 hK7 hK8 hK9 hK10 hK11;simp_all
      refine A2 ?_;simp only[go_sem];refine hK10 _ ?_;refine oW G8 ?_;simp (maxSteps:=2000000)only[go_sem];repeat(with_reducible first|refine oA ?_|refine And.intro (by first|omega) ?_)
      refine hK9 _ ?_;refine oW G8 ?_;simp only[go_sem];first|(refine hL6 ⟨(k+1,true,xs.take k++[m]++[xs.getD k 0]),by omega,by simp only[List.length_append,List.length_take,List.length_singleton];omega,(fun h=>by cases h),fun _=>hnew⟩ _ (oK ?_) ?_)|(refine hL6 ⟨(k+1,true,xs.take k++[xs.getD k 0]),by omega,by simp only[List.length_append,List.length_take,List.length_singleton];omega,(fun h=>by cases h),fun _=>hnew⟩ _ (oK ?_) ?_)|(refine hL6 ⟨(k+1,dn,ou++[xs.getD k 0]),by omega,by simp only[List.length_append,List.length_singleton];omega,(fun h=>⟨by obtain⟨e,_⟩:=hf h;subst e;exact(E7 (d:=0) (by omega)).symm,B3u (by omega) (hf h).2 (hnk h)⟩),fun h=>B01 (by omega) (ht h)⟩ _ (oK ?_) ?_)
      ·
       simp (maxSteps:=2000000)only[go_sem];all_goals(first|rfl|((repeat' refine And.intro ?_ ?_)<;>first|rfl|exact wk (by omega)|simp))
      ·
       first|(simp only[];omega)|omega|(simp;omega)
  intro c0;refine B6 ?_;simp only[go_sem];refine hK4 _ ?_;refine oS fun _ hK14=>?_;refine oS fun _ hK15=>?_;refine oW G8 ?_;simp only[go_sem];repeat(with_reducible refine oA ?_)
  refine hK15 _ ?_;refine oC rfl ?_ ?_
  ·
   intro c3;refine oW G8 ?_;simp (maxSteps:=2000000)only[go_sem];repeat(with_reducible first|refine oA ?_|refine And.intro (by first|omega) ?_)
   refine hK14 _ ?_;refine oS fun _ hK16=>?_;refine oW G8 ?_;simp only[go_sem];refine hK16 _ ?_;refine A0 ?_;simp only[hres,go_sem]
   first
    | exact oF
    | refine ⟨?_, oF⟩
      have hke:k=xs.length:=by omega
      clear hK1 hK2 hK3 hK4 hK5 hL6 hK7 hK8 hK14 hK15 hK16;subst hke;first|exact A6G hf (by assumption)|exact A6o ht (by assumption)|exact A6G hf (by simp_all)|exact A6o ht (by simp_all)
  intro c3;refine A2 ?_;simp only[go_sem];refine hK14 _ ?_;refine oS fun _ hK17=>?_;refine oW G8 ?_;simp only[go_sem];refine hK17 _ ?_;refine A0 ?_;simp only[hres,go_sem]
  first
   | exact oF
   | refine ⟨?_, oF⟩
     have hke:k=xs.length:=by omega
     clear hK1 hK2 hK3 hK4 hK5 hL6 hK7 hK8 hK14 hK15 hK17;subst hke;first|exact A6G hf (by assumption)|exact A6o ht (by assumption)|exact A6G hf (by simp_all)|exact A6o ht (by simp_all)
def A9y:E4:=fun f=>if f=71 then some (.p A3Z) else B3U f
theorem F4:B4 Tryz.prog A9y:=E3 C0H (B0 Tryz.func71 rfl (by decide)) G8
attribute [go_sem] A9y A3Z
def w4:Con:=⟨[.ptr (.prod (.int .i64) (.prod (.row 26 (.row 2 (.int .i64))) (.prod (.row 95 (.prod (.int .i64) (.prod (.int .i64) (.prod (.int .i64) (.row 2 (.int .i64)))))) (.row 2 (.int .i64)))))],[⟨(.row 2 (.int .i64)),true⟩],fun x=>C0 x.1=true,fun x=>G3 x.1⟩
theorem B2G:C9 Tryz.prog 36 w4:=by
  refine A4 Tryz.func36 rfl ?_
  have hres:Tryz.f36.results.toList=[.tmp 2]:=rfl
  rintro⟨⟨(pi:Int),(ts:List (List Int)),(ns:List A6),(os:List Int)⟩,_⟩ hc hL
  simp only[w4,go_sem] at hL
  obtain⟨⟨lts,lts2⟩,⟨lns,lns2⟩,los⟩:=hL
  simp only[w4,St.init,St.initG,Tryz.ntmps36,go_sem] 
  have hF:C0 (pi,ts,ns,os)=true:=hc
  have hn24:ns.length≤24:=(A8 hF).1
  have ho4:os.length≤4:=(A8 hF).2.1
  refine oS fun _ hK1=>?_;refine oW F4 ?_;simp only[go_sem];refine hK1 _ ?_;refine oS fun _ hK2=>?_;refine oW F4 ?_;simp only[List.nodup_nil,go_sem];repeat(with_reducible refine oA ?_)
  refine hK2 _ ?_;refine oS fun _ hK3=>?_;refine oS fun _ hK4=>?_;refine oW F4 ?_;simp only[go_sem];refine hK4 _ ?_;refine A1 ?_;refine A7 (ι:={ k:Nat // k≤os.length }) (fun k=>⟨[.c (.pt [] ((.prod (.int .i64) (.prod (.row 26 (.row 2 (.int .i64))) (.prod (.row 95 (.prod (.int .i64) (.prod (.int .i64) (.prod (.int .i64) (.row 2 (.int .i64)))))) (.row 2 (.int .i64)))))) (pi,ts,ns,os) 0),zz,zz,.c (.ow 9003),.c (.sc (.int .i64 (k.1))),zz,zz,zz,zz,zz,zz,zz,zz,zz,zz,zz,zz,zz,zz,zz,zz,zz,zz,zz,zz,zz,zz,zz,zz,zz,zz,zz,zz,zz,zz,zz,zz,zz,zz,zz,zz,zz,zz,zz,zz,zz,zz,zz,zz,zz,zz,zz,zz,zz,zz,zz,zz,zz,zz,zz,zz,zz,zz,zz,zz,zz,zz,zz,zz],[(9003,.row 2 (.int .i64) (O3 [] (os.take k.1)) [])]⟩) (fun k=>os.length - k.1) ⟨0,by simp⟩ ?_ ?_
  ·
   refine oK ?_;simp (maxSteps:=2000000)only[go_sem];all_goals(first|rfl|((repeat' refine And.intro ?_ ?_)<;>first|rfl|simp))
  rintro⟨k,hk⟩ K5 hL5
  have hps:(O3 [] (os.take k)).length≤4:=C0W hF k
  refine oS fun _ hK6=>?_;refine oS fun _ hK7=>?_;refine oW F4 ?_;simp (maxSteps:=2000000)only[go_sem];repeat(with_reducible refine oA ?_)
  refine hK7 _ ?_;refine oC rfl ?_ ?_
  ·
   intro c0;have hnx:=A9E (l:=[]) (m:=os) (k:=k) (by omega)
   refine A2 ?_;simp only[go_sem];refine hK6 _ ?_;refine oS fun _ hK8=>?_;refine A1 ?_;refine oW F4 ?_;simp (maxSteps:=2000000)only[go_sem];repeat(with_reducible first|refine oA ?_|refine And.intro (by first|exact Nat.le_trans hps (by decide)) ?_)
   refine hK8 _ ?_;refine oW F4 ?_;simp only[go_sem];refine hL5 ⟨k+1,by omega⟩ _ (oK ?_) ?_
   ·
    simp (maxSteps:=2000000)only[go_sem];all_goals((repeat' refine And.intro ?_ ?_)<;>first|rfl|exact wk (by omega)|exact hnx.symm|(congr 1;exact hnx.symm)|(congr 1;done))
   ·
    first|(simp only[];omega)|omega|(simp;omega)
  intro c0;have hte:os.take k=os:=List.take_of_length_le (by omega)
  refine B6 ?_;simp only[go_sem];refine hK3 _ ?_;refine oS fun _ hK9=>?_;refine oS fun _ hK10=>?_;refine oW F4 ?_;simp only[go_sem];refine hK10 _ ?_;refine A1 ?_;refine A7 (ι:={ s:List Int × Bool // NOk (pi,ts,ns,os) s.1∧(s.2=false→B2F (pi,ts,ns,os) s.1) }) (fun s=>⟨[.c (.pt [] ((.prod (.int .i64) (.prod (.row 26 (.row 2 (.int .i64))) (.prod (.row 95 (.prod (.int .i64) (.prod (.int .i64) (.prod (.int .i64) (.row 2 (.int .i64)))))) (.row 2 (.int .i64)))))) (pi,ts,ns,os) 0),zz,zz,.c (.ow 9003),zz,.c (.sc (.bool (s.1.2))),zz,zz,zz,zz,zz,zz,zz,zz,zz,zz,zz,zz,zz,zz,zz,zz,zz,zz,zz,zz,zz,zz,zz,zz,zz,zz,zz,zz,zz,zz,zz,zz,zz,zz,zz,zz,zz,zz,zz,zz,zz,zz,zz,zz,zz,zz,zz,zz,zz,zz,zz,zz,zz,zz,zz,zz,zz,zz,zz,zz,zz,zz,zz],[(9003,.row 2 (.int .i64) (s.1.1) [])]⟩) (fun s=>2 * (ns.length - s.1.1.length)+s.1.2.toNat) ⟨(O3 [] os,true),C1Z hF,fun h=>by cases h⟩ ?_ ?_
  ·
   refine oK ?_;simp (maxSteps:=2000000)only[go_sem];all_goals((repeat' refine And.intro ?_ ?_)<;>first|rfl|(rw[hte];done)|(congr 1;rw[hte];done)|(congr 1;done))
  rintro⟨⟨l,bg⟩,hN,hC⟩ K11 hL11
  simp only at hN hC
  have hll:l.length≤24:=Nat.le_trans hN.len hn24
  refine oS fun _ hK12=>?_;refine oS fun _ hK13=>?_;refine oW F4 ?_;simp only[go_sem];refine hK13 _ ?_;refine oC rfl ?_ ?_
  ·
   intro c1;refine A2 ?_;simp only[go_sem];refine hK12 _ ?_;refine A1 ?_;refine oS fun _ hK14=>?_;refine oW F4 ?_;simp only[go_sem];refine hK14 _ ?_;refine oS fun _ hK15=>?_;refine oW F4 ?_;simp only[go_sem];repeat(with_reducible first|refine oA ?_|refine And.intro (by first|exact Nat.le_trans hll (by decide)) ?_)
   refine hK15 _ ?_;refine oS fun _ hK16=>?_;refine oS fun _ hK17=>?_;refine oW F4 ?_;simp only[go_sem];refine hK17 _ ?_;refine A1 ?_;refine A7 (ι:={ k:Nat // k≤l.length }) (fun k'=>⟨[.c (.pt [] ((.prod (.int .i64) (.prod (.row 26 (.row 2 (.int .i64))) (.prod (.row 95 (.prod (.int .i64) (.prod (.int .i64) (.prod (.int .i64) (.row 2 (.int .i64)))))) (.row 2 (.int .i64)))))) (pi,ts,ns,os) 0),zz,zz,.c (.ow 9003),zz,zz,.c (.sc (.int .i64 (l.length))),.c (.ow 9007),.c (.sc (.int .i64 (k'.1))),zz,zz,zz,zz,zz,zz,zz,zz,zz,zz,zz,zz,zz,zz,zz,zz,zz,zz,zz,zz,zz,zz,zz,zz,zz,zz,zz,zz,zz,zz,zz,zz,zz,zz,zz,zz,zz,zz,zz,zz,zz,zz,zz,zz,zz,zz,zz,zz,zz,zz,zz,zz,zz,zz,zz,zz,zz,zz,zz,zz],[(9003,.row 2 (.int .i64) ((y9 ns l k'.1)) []),(9007,.row 2 (.int .i64) (l) [])]⟩) (fun k'=>l.length - k'.1) ⟨0,by simp⟩ ?_ ?_
   ·
    refine oK ?_;simp (maxSteps:=2000000)only[go_sem];all_goals((repeat' refine And.intro ?_ ?_)<;>first|rfl|(congr 1;done))
   rintro⟨k,hk⟩ K18 hL18
   refine oS fun _ hK19=>?_;refine oS fun _ hK20=>?_;refine oW F4 ?_;simp only[go_sem];refine hK20 _ ?_;refine oC rfl ?_ ?_
   ·
    intro c2;obtain⟨hr1,hr2,hr3⟩:=hN.rng _ (D6 (d:=(0:Int)) (show k < l.length by omega))
    have hr2:l.getD k 0 < (ns.length:Int):=hr2
    have hfl3:(ns.getD (l.getD k 0).toNat ((0,0,0,[]):A6)).2.2.2.length≤1000:=Nat.le_trans (d8 hF _ (show (l.getD k 0).toNat < ns.length by omega)).1 (by decide)
    refine A2 ?_;simp only[go_sem];refine hK19 _ ?_;refine oS fun _ hK21=>?_;refine A1 ?_;refine oS fun _ hK22=>?_
    refine oR F4
      [[],[0],[0,1],[0,1,2],[],[],[4,5],[4,5,6],[0,1,2,3,4,5,6,7],[0,1,2,3,4,5,6,7,8],[0,1,2,3,4,5,6,7,8,9],[0,1,2,3,4,5,6,7,8,9,10]]
      [[],[],[],[],[],[],[],[],[],[],[],[]]
      [[],[],[],[],[],[],[],[],[],[],[],[]] (by kernel_rfl) (by kernel_rfl) (A9 (acc:=[]) ?_)
    simp (maxSteps:=2000000)only[go_sem];repeat(with_reducible refine oD ?_)
    refine hK22 _ ?_;refine oS fun _ hK23=>?_;refine oW F4 ?_;simp only[go_sem];refine hK23 _ ?_;refine A1 ?_;refine A7 (ι:={ j:Nat // j≤(ns.getD (l.getD k 0).toNat ((0,0,0,[]):A6)).2.2.2.length }) (fun k''=>⟨[.c (.pt [] ((.prod (.int .i64) (.prod (.row 26 (.row 2 (.int .i64))) (.prod (.row 95 (.prod (.int .i64) (.prod (.int .i64) (.prod (.int .i64) (.row 2 (.int .i64)))))) (.row 2 (.int .i64)))))) (pi,ts,ns,os) 0),zz,zz,.c (.ow 9003),zz,zz,.c (.sc (.int .i64 (l.length))),.c (.ow 9007),.c (.sc (.int .i64 (k))),.c (.rd [] 2 (.int .i64) ((ns.getD (l.getD k 0).toNat ((0,0,0,[]):A6)).2.2.2)),.c (.sc (.int .i64 (k''.1))),zz,zz,zz,zz,zz,zz,zz,zz,zz,zz,zz,zz,zz,zz,zz,zz,zz,zz,zz,zz,zz,zz,zz,zz,zz,zz,zz,zz,zz,zz,zz,zz,zz,zz,zz,zz,zz,zz,zz,zz,zz,zz,zz,zz,zz,zz,zz,zz,zz,zz,zz,zz,zz,zz,zz,zz,zz,zz],[(9003,.row 2 (.int .i64) (O3 (y9 ns l k) ((ns.getD (l.getD k 0).toNat ((0,0,0,[]):A6)).2.2.2.take k''.1)) []),(9007,.row 2 (.int .i64) (l) [])]⟩) (fun k''=>(ns.getD (l.getD k 0).toNat ((0,0,0,[]):A6)).2.2.2.length - k''.1) ⟨0,by simp⟩ ?_ ?_
    ·
     refine oK ?_;simp (maxSteps:=2000000)only[go_sem];all_goals((repeat' refine And.intro ?_ ?_)<;>first|rfl|(congr 1;done))
    rintro⟨j,hj⟩ K24 hL24
    have hrp:(O3 (y9 ns l k) ((ns.getD (l.getD k 0).toNat ((0,0,0,[]):A6)).2.2.2.take j)).length≤ns.length+3:=C2Y hF hN (by omega)
    refine oS fun _ hK25=>?_;refine oS fun _ hK26=>?_;refine oW F4 ?_;simp only[go_sem];refine hK26 _ ?_;refine oC rfl ?_ ?_
    ·
     intro c3;have hnf:=A9E (l:=y9 ns l k) (m:=(ns.getD (l.getD k 0).toNat ((0,0,0,[]):A6)).2.2.2) (k:=j) (by omega)
     refine A2 ?_;simp only[go_sem];refine hK25 _ ?_;refine oS fun _ hK27=>?_;refine A1 ?_;refine oW F4 ?_;simp (maxSteps:=2000000)only[go_sem];repeat(with_reducible first|refine oA ?_|refine And.intro (by first|exact Nat.le_trans hrp (by omega)) ?_)
     refine hK27 _ ?_;refine oW F4 ?_;simp only[go_sem];refine hL24 ⟨j+1,by omega⟩ _ (oK ?_) ?_
     ·
      simp (maxSteps:=2000000)only[go_sem];all_goals((repeat' refine And.intro ?_ ?_)<;>first|rfl|exact wk (by omega)|exact hnf.symm|(congr 1;exact hnf.symm)|(congr 1;done))
     ·
      first|(simp only[];omega)|omega|(simp;omega)
    intro c3;have hje:=C1z (ns:=ns) (l:=l) (k:=k) (F:=(ns.getD (l.getD k 0).toNat ((0,0,0,[]):A6)).2.2.2) rfl (j:=j) (by omega)
    refine B6 ?_;simp only[go_sem];refine hK21 _ ?_;refine oW F4 ?_;simp only[go_sem];refine hL18 ⟨k+1,by omega⟩ _ (oK ?_) ?_
    ·
     simp (maxSteps:=2000000)only[go_sem];all_goals((repeat' refine And.intro ?_ ?_)<;>first|rfl|exact wk (by omega)|exact hje|(congr 1;exact hje)|(congr 1;done))
    ·
     first|(simp only[];omega)|omega|(simp;omega)
   intro c2;have hke:k=l.length:=by omega
   have hNN:=B9L hF hN (Nat.le_refl _)
   refine B6 ?_;simp only[go_sem];refine hK16 _ ?_;refine oW F4 ?_;simp (maxSteps:=2000000)only[go_sem];refine hL11 ⟨(y9 ns l l.length,decide ((l.length:Int) < ((y9 ns l l.length).length:Int))),hNN,fun h=>C1x hN (show (y9 ns l l.length).length≤l.length by have:=of_decide_eq_false h;omega)⟩ _ (oK ?_) ?_
   ·
    simp (maxSteps:=2000000)only[go_sem];all_goals((repeat' refine And.intro ?_ ?_)<;>first|rfl|exact wk (by omega)|(rw[hke];done)|(congr 1;done))
   ·
    have h1:=hNN.len
    have h2:=hN.len
    have h1:(y9 ns l l.length).length≤ns.length:=h1
    have h2:l.length≤ns.length:=h2
    have h3:bg=true:=by assumption
    subst h3
    by_cases hd:(l.length:Int) < ((y9 ns l l.length).length:Int)
    · simp only[decide_eq_true hd,Bool.toNat_true];omega
    · have h4:=(B35 (ns:=ns) hN.srt l.length).2.2.1
      simp only[decide_eq_false hd,Bool.toNat_true,Bool.toNat_false];omega
  intro c1;refine B6 ?_;simp only[go_sem];refine hK9 _ ?_;refine oS fun _ hK28=>?_;refine oW F4 ?_;simp only[go_sem];refine hK28 _ ?_;refine A0 ?_;simp only[hres,go_sem]
  first
   | exact oF
   | refine ⟨?_, oF⟩
     have hbg:bg=false:=by assumption
     exact hN.fin hF (hC hbg)
def A3R:E4:=fun f=>if f=36 then some (.p w4) else A9y f
theorem A17:B4 Tryz.prog A3R:=E3 B2G (B0 Tryz.func36 rfl (by decide)) F4
attribute [go_sem] A3R w4
def A2B:Con:=⟨[.ptr (.prod (.int .i64) (.prod (.row 26 (.row 2 (.int .i64))) (.prod (.row 95 (.prod (.int .i64) (.prod (.int .i64) (.prod (.int .i64) (.row 2 (.int .i64)))))) (.row 2 (.int .i64)))))],[⟨(.prod (.int .i64) (.prod (.row 26 (.row 2 (.int .i64))) (.prod (.row 95 (.prod (.int .i64) (.prod (.int .i64) (.prod (.int .i64) (.row 2 (.int .i64)))))) (.row 2 (.int .i64))))),true⟩],fun x=>B9 x.1=true,fun x=>D0 x.1⟩
theorem B78:C9 Tryz.prog 16 A2B:=by
  refine A4 Tryz.func16 rfl ?_
  have hres:Tryz.f16.results.toList=[.cell 2 28]:=rfl
  rintro⟨⟨(pi:Int),(ts:List (List Int)),(ns:List A6),(os:List Int)⟩,_⟩ hc hL
  simp only[A2B,go_sem] at hL
  simp only[A2B,St.init,St.initG,Tryz.ntmps16,go_sem] 
  have hP:B9 (pi,ts,ns,os)=true:=hc
  refine oS fun _ hK1=>?_;refine oW A17 ?_;simp only[go_sem];refine hK1 _ ?_;refine oS fun _ hK2=>?_;refine oW A17 ?_;simp (maxSteps:=2000000)only[go_sem];repeat(with_reducible first|refine oA ?_|refine And.intro (by first|exact(B8 hP).1|with_unfolding_all exact B1u hP) ?_)
  refine hK2 _ ?_;refine A0 ?_;simp only[hres,go_sem];first|exact oF|exact oFr
def A4W:E4:=fun f=>if f=16 then some (.p A2B) else A3R f
theorem A0D:B4 Tryz.prog A4W:=E3 B78 (B0 Tryz.func16 rfl (by decide)) A17
attribute [go_sem] A4W A2B
def y0:Con:=⟨[.val (.int .i64)],[⟨.bool,true⟩],fun _=>True,fun x=>A1R x.1⟩
theorem B3k:C9 Tryz.prog 95 y0:=by
  refine A4 Tryz.func95 rfl ?_
  have hres:Tryz.f95.results.toList=[.tmp 2]:=rfl
  rintro⟨(x:Int),_⟩ hc hL
  simp only[y0,go_sem] at hL
  simp only[y0,St.init,St.initG,Tryz.ntmps95,go_sem] 
  refine oS fun _ hK1=>?_;refine oW A0D ?_;simp only[go_sem];refine hK1 _ ?_;refine oS fun _ hK2=>?_;refine oW A0D ?_;simp only[List.nodup_cons,List.nodup_nil,List.not_mem_nil,not_false_eq_true,go_sem];repeat(with_reducible refine oA ?_)
  refine hK2 _ ?_;refine A0 ?_;simp only[hres,go_sem];first|exact oF|(refine⟨?_,oF⟩;exact C42 x)
def A46:E4:=fun f=>if f=95 then some (.p y0) else A4W f
theorem N8:B4 Tryz.prog A46:=E3 B3k (B0 Tryz.func95 rfl (by decide)) A0D
attribute [go_sem] A46 y0
def A62:Con:=⟨[.ptr (.prod (.int .i64) (.prod (.row 26 (.row 2 (.int .i64))) (.prod (.row 95 (.prod (.int .i64) (.prod (.int .i64) (.prod (.int .i64) (.row 2 (.int .i64)))))) (.row 2 (.int .i64)))))],[⟨.bool,true⟩],fun _=>True,fun x=>x.1.2.2.1.all fun n=>A1R n.1⟩
theorem C41:C9 Tryz.prog 48 A62:=by
  refine A4 Tryz.func48 rfl ?_
  have hres:Tryz.f48.results.toList=[.tmp 2]:=rfl
  rintro⟨⟨(pi:Int),(ts:List (List Int)),(ns:List A6),(os:List Int)⟩,_⟩ hc hL
  simp only[A62,go_sem] at hL
  obtain⟨⟨lts,lts2⟩,⟨lns,lns2⟩,los⟩:=hL
  simp only[A62,St.init,St.initG,Tryz.ntmps48,go_sem] 
  refine oS fun _ hK1=>?_;refine oW N8 ?_;simp only[go_sem];refine hK1 _ ?_;refine oS fun _ hK2=>?_;refine oS fun _ hK3=>?_;refine oW N8 ?_;simp only[go_sem];refine hK3 _ ?_;refine A1 ?_;refine A7 (ι:={ k:Nat // k≤ns.length∧(ns.take k).all (fun n=>A1R n.1)=true }) (fun k=>⟨[.c (.pt [] ((.prod (.int .i64) (.prod (.row 26 (.row 2 (.int .i64))) (.prod (.row 95 (.prod (.int .i64) (.prod (.int .i64) (.prod (.int .i64) (.row 2 (.int .i64)))))) (.row 2 (.int .i64)))))) (pi,ts,ns,os) 0),zz,zz,.c (.sc (.int .i64 (k.1))),zz,zz,zz,zz,zz,zz,zz,zz,zz,zz,zz,zz,zz,zz,zz,zz,zz,zz,zz],[]⟩) (fun k=>ns.length - k.1) ⟨0,by simp⟩ ?_ ?_
  ·
   refine oK ?_;simp (maxSteps:=2000000)only[go_sem];all_goals(first|rfl|((repeat' refine And.intro ?_ ?_)<;>first|rfl|simp))
  rintro⟨k,hk,hp⟩ K4 hL4
  refine oS fun _ hK5=>?_;refine oS fun _ hK6=>?_;refine oW N8 ?_;simp (maxSteps:=2000000)only[go_sem];repeat(with_reducible refine oA ?_)
  refine hK6 _ ?_;refine oC rfl ?_ ?_
  ·
   intro c0;refine A2 ?_;simp only[go_sem];refine hK5 _ ?_;refine oS fun _ hK7=>?_;refine A1 ?_;refine oS fun _ hK8=>?_;refine oW N8 ?_;simp (maxSteps:=2000000)only[go_sem];repeat(with_reducible refine oA ?_)
   refine hK8 _ ?_;refine oC rfl ?_ ?_
   ·
    intro c1;refine oS fun _ hK9=>?_;refine oW N8 ?_;simp only[go_sem];refine hK9 _ ?_;refine A0 ?_;simp only[hres,go_sem];first|exact oF|(refine⟨?_,oF⟩;exact(N5 (k:=k) (d:=((0,0,0,[]):A6)) (by omega) (by first|assumption|(clear hp;clear hK1 hK2 hK3 hL4 hK5 hK6 hK7 hK8 hK9;simp_all))).symm)
   intro c1;refine A2 ?_;simp only[go_sem];refine hK7 _ ?_;refine oW N8 ?_;simp only[go_sem];refine hL4 ⟨k+1,by omega,L6 (d:=((0,0,0,[]):A6)) (by omega) hp (by first|assumption|(clear hK1 hK2 hK3 hL4 hK5 hK6 hK7 hK8;simp_all))⟩ _ (oK ?_) ?_
   ·
    simp (maxSteps:=2000000)only[go_sem];first|rfl|exact wk (by omega)
   ·
    first|(simp only[];omega)|omega|(simp;omega)
  intro c0;refine B6 ?_;simp only[go_sem];refine hK2 _ ?_;refine oS fun _ hK10=>?_;refine oW N8 ?_;simp only[go_sem];refine hK10 _ ?_;refine A0 ?_;simp only[hres,go_sem];first|exact oF|(refine⟨?_,oF⟩;exact(L3 hp (by omega)).symm)
def B3R:E4:=fun f=>if f=48 then some (.p A62) else A46 f
theorem A2j:B4 Tryz.prog B3R:=E3 C41 (B0 Tryz.func48 rfl (by decide)) N8
attribute [go_sem] B3R A62
def v8:Con:=⟨[.val ((.prod (.int .i64) (.prod (.int .i64) (.prod (.int .i64) (.row 2 (.int .i64))))))],[⟨.int .i64,true⟩],fun x=>M6 x.1 4=true,fun x=>((D4 x.1).length:Int)⟩
theorem B3x:C9 Tryz.prog 96 v8:=by
  refine A4 Tryz.func96 rfl ?_
  have hres:Tryz.f96.results.toList=[.tmp 2]:=rfl
  rintro⟨⟨(kd:Int),(a:Int),(bb:Int),(fr:List Int)⟩,_⟩ hc hL
  simp only[v8,go_sem] at hL
  simp only[v8,St.init,St.initG,Tryz.ntmps96,go_sem] 
  have hB:M6 (kd,a,bb,fr) 4=true:=hc
  have hnc:A23 (kd,a,bb,fr):=⟨4,hB⟩
  refine oS fun _ hK1=>?_;refine oW A2j ?_;simp only[go_sem];refine hK1 _ ?_;refine oS fun _ hK2=>?_;refine oS fun _ hK3=>?_;refine oW A2j ?_;simp only[go_sem];repeat(with_reducible refine oA ?_)
  refine hK3 _ ?_;refine oC rfl ?_ ?_
  ·
   intro c0;exfalso;clear hK1 hK2 hK3
   simp_all
  intro c0;refine A2 ?_;simp only[go_sem];refine hK2 _ ?_;refine oS fun _ hK4=>?_;refine oW A2j ?_;simp only[go_sem];repeat(with_reducible first|refine oA ?_|refine And.intro (by first|exact hnc) ?_)
  refine hK4 _ ?_;refine A0 ?_;simp only[hres,go_sem];first|exact oF|exact oFr
def A3x:E4:=fun f=>if f=96 then some (.p v8) else B3R f
theorem N6:B4 Tryz.prog A3x:=E3 B3x (B0 Tryz.func96 rfl (by decide)) A2j
attribute [go_sem] A3x v8
def A0x:Con:=⟨[.ptr (.prod (.int .i64) (.prod (.row 26 (.row 2 (.int .i64))) (.prod (.row 95 (.prod (.int .i64) (.prod (.int .i64) (.prod (.int .i64) (.row 2 (.int .i64)))))) (.row 2 (.int .i64)))))],[⟨.int .i64,true⟩],fun x=>C0 x.1=true,fun x=>(B7 x.1.2.2.1:Int)⟩
theorem B5k:C9 Tryz.prog 49 A0x:=by
  refine A4 Tryz.func49 rfl ?_
  have hres:Tryz.f49.results.toList=[.tmp 2]:=rfl
  rintro⟨⟨(pi:Int),(ts:List (List Int)),(ns:List A6),(os:List Int)⟩,_⟩ hc hL
  simp only[A0x,go_sem] at hL
  obtain⟨⟨lts,lts2⟩,⟨lns,lns2⟩,los⟩:=hL
  simp only[A0x,St.init,St.initG,Tryz.ntmps49,go_sem] 
  have hF:C0 (pi,ts,ns,os)=true:=hc
  have hn24:ns.length≤24:=(A8 hF).1
  refine oS fun _ hK1=>?_;refine oW N6 ?_;simp only[go_sem];refine hK1 _ ?_;refine oS fun _ hK2=>?_;refine oW N6 ?_;simp only[go_sem];refine hK2 _ ?_;refine oS fun _ hK3=>?_;refine oS fun _ hK4=>?_;refine oW N6 ?_;simp only[go_sem];refine hK4 _ ?_;refine A1 ?_;refine A7 (ι:={ k:Nat // k≤ns.length }) (fun k=>⟨[.c (.pt [] ((.prod (.int .i64) (.prod (.row 26 (.row 2 (.int .i64))) (.prod (.row 95 (.prod (.int .i64) (.prod (.int .i64) (.prod (.int .i64) (.row 2 (.int .i64)))))) (.row 2 (.int .i64)))))) (pi,ts,ns,os) 0),zz,zz,.c (.sc (.int .i64 (T4 ns k.1))),.c (.sc (.int .i64 (k.1))),zz,zz,zz,zz,zz,zz,zz,zz,zz,zz,zz,zz,zz,zz,zz,zz,zz,zz,zz,zz],[]⟩) (fun k=>ns.length - k.1) ⟨0,by simp⟩ ?_ ?_
  ·
   refine oK ?_;simp (maxSteps:=2000000)only[go_sem];all_goals(first|rfl|((repeat' refine And.intro ?_ ?_)<;>first|rfl|simp))
  rintro⟨k,hk⟩ K5 hL5
  refine oS fun _ hK6=>?_;refine oS fun _ hK7=>?_;refine oW N6 ?_;simp (maxSteps:=2000000)only[go_sem];repeat(with_reducible refine oA ?_)
  refine hK7 _ ?_;refine oC rfl ?_ ?_
  ·
   intro c0;have hnb:M6 ((ns.getD k ((0,0,0,[]):A6)).1,(ns.getD k ((0,0,0,[]):A6)).2.1,(ns.getD k ((0,0,0,[]):A6)).2.2.1,(ns.getD k ((0,0,0,[]):A6)).2.2.2) 4=true:=A5r (p:=(pi,ts,ns,os)) hF (by show k < ns.length;omega)
   have hnx:T4 ns (k+1)=T4 ns k+(D4 (ns.getD k ((0,0,0,[]):A6))).length:=A0Z (by omega)
   have h16:T4 ns (k+1)≤16 * (k+1):=B9C (p:=(pi,ts,ns,os)) hF _ (by show k+1≤ns.length;omega)
   have hw:IntKind.i64.wrap ((T4 ns k:Int)+((D4 (ns.getD k ((0,0,0,[]):A6))).length:Int))=(T4 ns (k+1):Int):=by rw[F3 (by omega)];omega
   refine A2 ?_;simp only[go_sem];refine hK6 _ ?_;refine oS fun _ hK8=>?_;refine A1 ?_;refine oW N6 ?_;simp (maxSteps:=2000000)only[hw,go_sem];repeat(with_reducible first|refine oA ?_|refine And.intro (by first|exact hnb) ?_)
   refine hK8 _ ?_;refine oW N6 ?_;simp only[go_sem];refine hL5 ⟨k+1,by omega⟩ _ (oK ?_) ?_
   ·
    simp (maxSteps:=2000000)only[go_sem];all_goals((repeat' refine And.intro ?_ ?_)<;>first|rfl|exact wk (by omega)|(congr 1;done))
   ·
    first|(simp only[];omega)|omega|(simp;omega)
  intro c0;refine B6 ?_;simp only[go_sem];refine hK3 _ ?_;refine oS fun _ hK9=>?_;refine oW N6 ?_;simp only[go_sem];refine hK9 _ ?_;refine A0 ?_;simp only[hres,go_sem];first|exact oF|(refine⟨?_,oF⟩;rw[B5N (by omega)])
def A5B:E4:=fun f=>if f=49 then some (.p A0x) else A3x f
theorem T7:B4 Tryz.prog A5B:=E3 B5k (B0 Tryz.func49 rfl (by decide)) N6
attribute [go_sem] A5B A0x
def A2F:Con:=⟨[.val (.int .i64),.val (.int .i64)],[⟨(.row 2 (.int .i64)),true⟩],fun x=>J3 x.1 0 1099511627776=true∧0≤x.2.1,fun x=>L4 (Int.toNat x.1) (Int.toNat x.2.1)⟩
theorem B76:C9 Tryz.prog 99 A2F:=by
  refine A4 Tryz.func99 rfl ?_
  have hres:Tryz.f99.results.toList=[.tmp 4]:=rfl
  rintro⟨(x:Int),(y:Int),_⟩ hc hL
  simp only[A2F,go_sem] at hL
  simp only[A2F,St.init,St.initG,Tryz.ntmps99,go_sem] 
  obtain⟨hx,hy⟩:=(show J3 x 0 1099511627776=true∧0≤y from hc)
  obtain⟨hx1,hx2⟩:=C1.1 hx
  refine oS fun _ hK1=>?_;refine oW T7 ?_;simp only[go_sem];refine hK1 _ ?_;refine oS fun _ hK2=>?_;refine oW T7 ?_;simp only[go_sem];repeat(with_reducible first|refine oA ?_|refine And.intro (by first|exact hx) ?_)
  refine hK2 _ ?_;refine oS fun _ hK3=>?_;refine oS fun _ hK4=>?_;refine oW T7 ?_;simp only[go_sem];refine hK4 _ ?_;refine oC rfl ?_ ?_
  ·
   intro c0;refine oW T7 ?_;simp only[List.length_replicate,go_sem];repeat(with_reducible refine oA ?_)
   refine hK3 _ ?_;refine oS fun _ hK5=>?_;refine oW T7 ?_;simp only[go_sem];refine hK5 _ ?_;refine A0 ?_;simp only[hres,go_sem];first|exact oF|(refine⟨?_,oF⟩;first|rfl|exact(A4Y (by omega)).symm)
  intro c0;refine A2 ?_;simp only[go_sem];refine hK3 _ ?_;refine oS fun _ hK6=>?_;refine oW T7 ?_;simp only[go_sem];refine hK6 _ ?_;refine A0 ?_;simp only[hres,go_sem];first|exact oF|(refine⟨?_,oF⟩;first|rfl|exact(A4Y (by omega)).symm)
def A7b:E4:=fun f=>if f=99 then some (.p A2F) else A5B f
theorem d7:B4 Tryz.prog A7b:=E3 B76 (B0 Tryz.func99 rfl (by decide)) T7
attribute [go_sem] A7b A2F
def A1x:Con:=⟨[.val (.int .i64),.val (.int .i64),.val (.int .i64)],[⟨.int .i64,true⟩],fun x=>J3 x.1 0 1000000=true∧J3 x.2.1 0 1000000=true,fun x=>A4w x.1 x.2.1 x.2.2.1⟩
theorem B7A:C9 Tryz.prog 100 A1x:=by
  refine A4 Tryz.func100 rfl ?_
  have hres:Tryz.f100.results.toList=[.tmp 6]:=rfl
  rintro⟨(x:Int),(y:Int),(z:Int),_⟩ hc hL
  simp only[A1x,go_sem] at hL
  simp only[A1x,St.init,St.initG,Tryz.ntmps100,go_sem] 
  obtain⟨hx,hy⟩:=(show J3 x 0 1000000=true∧J3 y 0 1000000=true from hc)
  obtain⟨hx1,hx2⟩:=C1.1 hx
  obtain⟨hy1,hy2⟩:=C1.1 hy
  have hw:IntKind.i64.wrap (x - y)=x - y:=F3 (by omega)
  refine oS fun _ hK1=>?_;refine oW d7 ?_;simp only[go_sem];refine hK1 _ ?_;refine oS fun _ hK2=>?_;refine oS fun _ hK3=>?_;refine oW d7 ?_;simp only[go_sem];refine hK3 _ ?_;refine oC rfl ?_ ?_
  ·
   intro c0;refine oS fun _ hK4=>?_;refine oW d7 ?_;simp only[go_sem];refine hK4 _ ?_;refine A0 ?_;simp only[hres,go_sem];first|exact oF|(refine⟨?_,oF⟩;exact(B38 (by omega)).symm)
  intro c0;refine A2 ?_;simp only[go_sem];refine hK2 _ ?_;refine oS fun _ hK5=>?_;refine oW d7 ?_;simp only[hw,go_sem];refine hK5 _ ?_;refine A0 ?_;simp only[hres,go_sem];first|exact oF|(refine⟨?_,oF⟩;exact(B3g (by omega)).symm)
def A7T:E4:=fun f=>if f=100 then some (.p A1x) else A7b f
theorem T3:B4 Tryz.prog A7T:=E3 B7A (B0 Tryz.func100 rfl (by decide)) d7
attribute [go_sem] A7T A1x
def A3m:Con:=⟨[.ptr (.row 26 (.row 2 (.int .i64)))],[⟨(.row 2 (.int .i64)),true⟩],fun x=>x.1.flatten.length≤1000000,fun x=>x.1.flatten⟩
theorem C0b:C9 Tryz.prog 136 A3m:=by
  refine A4 Tryz.func136 rfl ?_
  have hres:Tryz.f136.results.toList=[.tmp 2]:=rfl
  rintro⟨(cc:List (List Int)),_⟩ hc hL
  simp only[A3m,go_sem] at hL
  obtain⟨lcc,lcc2⟩:=hL;simp only[A3m,St.init,St.initG,Tryz.ntmps136,go_sem] 
  have hfl:cc.flatten.length≤1000000:=hc
  refine oS fun _ hK1=>?_;refine oW T3 ?_;simp only[go_sem];refine hK1 _ ?_;refine oS fun _ hK2=>?_;refine oW T3 ?_;simp only[List.nodup_nil,go_sem];repeat(with_reducible refine oA ?_)
  refine hK2 _ ?_;refine oS fun _ hK3=>?_;refine oS fun _ hK4=>?_;refine oW T3 ?_;simp only[go_sem];refine hK4 _ ?_;refine A1 ?_;refine A7 (ι:={ k:Nat // k≤cc.length }) (fun k=>⟨[.c (.pt [] ((.row 26 (.row 2 (.int .i64)))) cc 0),zz,zz,.c (.ow 9003),.c (.sc (.int .i64 (k.1))),zz,zz,zz,zz,zz,zz,zz,zz,zz,zz,zz,zz,zz,zz,zz,zz,zz,zz,zz,zz],[(9003,.row 2 (.int .i64) ((cc.take k.1).flatten) [])]⟩) (fun k=>cc.length - k.1) ⟨0,by simp⟩ ?_ ?_
  ·
   refine oK ?_;simp (maxSteps:=2000000)only[go_sem];all_goals(first|rfl|((repeat' refine And.intro ?_ ?_)<;>first|rfl|simp))
  rintro⟨k,hk⟩ K5 hL5
  refine oS fun _ hK6=>?_;refine oS fun _ hK7=>?_;refine oW T3 ?_;simp (maxSteps:=2000000)only[go_sem];repeat(with_reducible refine oA ?_)
  refine hK7 _ ?_;refine oC rfl ?_ ?_
  ·
   intro c0;have hnx:=A77 (xs:=cc) (k:=k) (by omega)
   have hle:=B9Q (xs:=cc) (k:=k) (by omega)
   refine A2 ?_;simp only[go_sem];refine hK6 _ ?_;refine oS fun _ hK8=>?_;refine A1 ?_;refine oW T3 ?_;simp (maxSteps:=2000000)only[go_sem];repeat(with_reducible first|refine oA ?_|refine And.intro (by first|omega) ?_)
   refine hK8 _ ?_;refine oW T3 ?_;simp only[go_sem];refine hL5 ⟨k+1,by omega⟩ _ (oK ?_) ?_
   ·
    simp (maxSteps:=2000000)only[go_sem];all_goals((repeat' refine And.intro ?_ ?_)<;>first|rfl|exact wk (by omega)|exact hnx|(congr 1;exact hnx)|(congr 1;done))
   ·
    first|(simp only[];omega)|omega|(simp;omega)
  intro c0;have hfd:=B1t (xs:=cc) (k:=k) (by omega)
  refine B6 ?_;simp only[go_sem];refine hK3 _ ?_;refine oS fun _ hK9=>?_;refine oW T3 ?_;simp only[go_sem];refine hK9 _ ?_;refine A0 ?_;simp only[hres,go_sem];first|exact oF|(refine⟨?_,oF⟩;exact hfd)
def A9s:E4:=fun f=>if f=136 then some (.p A3m) else A7T f
theorem B55:B4 Tryz.prog A9s:=E3 C0b (B0 Tryz.func136 rfl (by decide)) T3
attribute [go_sem] A9s A3m
end Go.Proofs.YtgaogcnfijbahaaGreat
