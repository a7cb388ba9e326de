/-
  Texts of this claim, joined (part 12). No condition beyond those of the theorems.
-/
import Derived.Test.YtenjbehedcegdaaGreatQ08
import Derived.Test.YtenjbehedcegdaaGreatQ09
import Derived.Test.YtenjbehedcegdaaGreatQ10
import Derived.Test.YtenjbehedcegdaaGreatQ11
import Derived.Test.YtenjbehedcegdaaGreatQ02
namespace Go.Proofs.YtenjbehedcegdaaGreat
open Go.RowKit
set_option linter.unusedSimpArgs false
set_option linter.unusedVariables false
set_option maxRecDepth 100000
set_option maxHeartbeats 8000000
def A8r:G4:=fun f=>match A2I f with
 | some k=>some k
 | none=>A0A f
theorem B1e:B5 Tryz.prog A8r:=W6 A8h A1m
attribute [go_sem] A8r T0
def A8l:G4:=fun f=>match A8r f with
 | some k=>some k
 | none=>s8 f
theorem A3C:B5 Tryz.prog A8l:=W6 B1e A9
attribute [go_sem] A8l T0
def A3b:Con:=⟨[.val ((.row 64 (.prod (.int .i64) (.prod (.int .i64) (.prod (.int .i64) (.prod (.int .i64) (.prod (.row 2 (.int .i64)) (.int .i64))))))))],[⟨.int .i64,true⟩],fun _=>True,fun x=>(x.1.length:Int)⟩
theorem B64:C8 Tryz.prog 36 A3b:=by
  refine A4 Tryz.func36 rfl ?_
  have hres:Tryz.f36.results.toList=[.tmp 2]:=rfl
  rintro⟨xs,_⟩ hc hL
  simp only[A3b,go_sem] at hL
  simp only[A3b,St.init,St.initG,Tryz.ntmps36,go_sem] 
  refine oS fun _ hK1=>?_;refine oW A3C ?_;simp only[go_sem];refine hK1 _ ?_;refine oS fun _ hK2=>?_;refine oW A3C ?_;simp only[go_sem];refine hK2 _ ?_;refine A0 ?_;simp only[hres,go_sem];first|exact oF|exact oFr
def A9I:G4:=fun f=>if f=36 then some (.p A3b) else A8l f
theorem G2:B5 Tryz.prog A9I:=F8 B64 (B0 Tryz.func36 rfl (by decide)) A3C
attribute [go_sem] A9I A3b
def A1t:Con:=⟨[.val ((.prod (.int .i64) (.prod (.row 26 (.row 2 (.int .i64))) (.prod (.row 67 (.prod (.int .i64) (.prod (.int .i64) (.prod (.int .i64) (.row 2 (.int .i64)))))) (.row 2 (.int .i64))))))],[⟨(.row 64 (.prod (.int .i64) (.prod (.int .i64) (.prod (.int .i64) (.prod (.int .i64) (.prod (.row 2 (.int .i64)) (.int .i64))))))),true⟩],fun x=>G3 x.1=true,fun x=>C1 x.1.2.2.1⟩
theorem B3f:C8 Tryz.prog 48 A1t:=by
  refine A4 Tryz.func48 rfl ?_
  have hres:Tryz.f48.results.toList=[.tmp 2]:=rfl
  rintro⟨⟨(pi:Int),(ts:List (List Int)),(ns:List B1),(os:List Int)⟩,_⟩ hc hL
  simp only[A1t,go_sem] at hL
  obtain⟨⟨lts,lts2⟩,⟨lns,lns2⟩,los⟩:=hL
  simp only[A1t,St.init,St.initG,Tryz.ntmps48,go_sem] 
  have hP:G3 (pi,ts,ns,os)=true:=hc
  have hF:=(E1 hP).1
  have hn24:ns.length≤24:=(C0 hF).1
  have hol9:(E3 ns).length=ns.length:=(E1 hP).2
  have hol:(E3 ns).length≤24:=by omega
  refine oS fun _ hK1=>?_;refine oW G2 ?_;simp only[go_sem];refine hK1 _ ?_;refine oS fun _ hK2=>?_;refine oW G2 ?_;simp only[List.nodup_cons,List.nodup_nil,List.not_mem_nil,not_false_eq_true,go_sem];repeat(with_reducible refine oA ?_)
  refine hK2 _ ?_;refine oS fun _ hK3=>?_
  refine oR G2
    [[],[0],[0,1],[0,1,2],[],[4],[4,5],[4,5,6],[0,1,2,3],[0,1,2,3,4,5,6,7,8]]
    [[420],[420],[420],[420],[356],[356],[356],[356],[420],[]]
    [[],[],[],[356],[],[],[],[420],[],[]] (by kernel_rfl) (by kernel_rfl) (A7 (acc:=[]) ?_)
  simp (maxSteps:=2000000)only[List.nodup_nil,go_sem];repeat(with_reducible refine oD ?_)
  refine hK3 _ ?_;refine oS fun _ hK4=>?_;refine oS fun _ hK5=>?_;refine oW G2 ?_;simp only[go_sem];repeat(with_reducible first|refine oA ?_|refine And.intro (by first|exact hF) ?_)
  refine hK5 _ ?_;refine A3 ?_;refine A8 (ι:={ s:Nat × List Bool × List Bool // s.1≤(E3 ns).length∧Marks ns.length s.2.1 ((E3 ns).take s.1)∧Marks ns.length s.2.2 (R6 ns (E3 ns) s.1).2 }) (fun k=>⟨[zz,.c (.po 116 0),zz,.c (.ow 9001),.c (.ow 9002),.c (.ow 9003),zz,zz,zz,zz,zz,zz,zz,zz,zz,zz,zz,zz,zz,zz,zz,zz,.c (.ow 9004),.c (.sc (.int .i64 ((E3 ns).length))),.c (.sc (.int .i64 (k.1.1))),zz,zz,zz,zz,zz,zz,zz,zz,zz,zz,zz,zz,zz,zz,zz,zz,zz,zz,zz,zz,zz,zz,zz,zz,zz,zz,zz,zz,zz,zz,zz,zz,zz,zz,zz,zz,zz,zz,zz,zz,zz,zz,zz,zz,zz,zz,zz,zz,zz,zz,zz,zz,zz,zz,zz,zz,zz,zz,zz,zz,zz,zz,zz,zz,zz,zz,zz,zz,zz,zz,zz,zz,zz,zz],[(116,.box [.sc (.int .i64 (pi)),.rd [] 26 ((.row 2 (.int .i64))) (ts),.rd [] 67 ((.prod (.int .i64) (.prod (.int .i64) (.prod (.int .i64) (.row 2 (.int .i64)))))) (ns),.rd [] 2 (.int .i64) (os)]),(9001,.tree 64 (.prod (.int .i64) (.prod (.int .i64) (.prod (.int .i64) (.prod (.int .i64) (.prod (.row 2 (.int .i64)) (.int .i64)))))) ((R6 ns (E3 ns) k.1.1).1) none),(9002,.row 4 (.bool) (k.1.2.1) []),(9003,.row 4 (.bool) (k.1.2.2) []),(9004,.row 2 (.int .i64) (E3 ns) [])]⟩) (fun k=>(E3 ns).length - k.1.1) ⟨(0,List.replicate ns.length false,List.replicate ns.length false),by simp,Marks.nil _,Marks.nil _⟩ ?_ ?_
  ·
   refine oK ?_;simp (maxSteps:=2000000)only[go_sem];all_goals((repeat' refine And.intro ?_ ?_)<;>first|rfl|(congr 1;done)|(simp;done))
  rintro⟨⟨k,oc,so⟩,hk,hoc,hso⟩ K6 hL6
  have hk:k≤(E3 ns).length:=hk
  have hoc:Marks ns.length oc ((E3 ns).take k):=hoc
  have hso:Marks ns.length so (R6 ns (E3 ns) k).2:=hso
  have hocl:=hoc.1
  have hsol:=hso.1
  have hor:k < (E3 ns).length→0≤(E3 ns).getD k 0∧((E3 ns).getD k 0).toNat < ns.length∧(E3 ns).getD k 0 < ns.length:=fun h=>A9D h
  refine oS fun _ hK7=>?_;refine oW G2 ?_;simp only[go_sem];refine hK7 _ ?_;refine oS fun _ hK8=>?_;refine oC rfl ?_ ?_
  ·
   intro c0;obtain⟨ho0,ho1,ho2⟩:=hor (by omega)
   have hko:CodeOk ns ((E3 ns).take k) (R6 ns (E3 ns) k):=A5f hF k (by omega)
   have hkl:=hko.len
   have hks:=hko.small (p:=(pi,ts,ns,os)) hF
   have hks:(R6 ns (E3 ns) k).2.length≤ns.length:=hks
   have htl:((E3 ns).take k).length=k:=by rw[List.length_take];omega
   obtain⟨hi1,hi2,hi3,hi4,hi5⟩:=Z8 (p:=(pi,ts,ns,os)) hF (i:=((E3 ns).getD k 0).toNat) ho1
   have hi4:(ns.getD ((E3 ns).getD k 0).toNat ((0,0,0,[]):B1)).2.2.2.length≤3:=hi4
   have hwl:=A0n (ns.getD ((E3 ns).getD k 0).toNat ((0,0,0,[]):B1))
   have hwl2:(G9 ((ns.getD ((E3 ns).getD k 0).toNat ((0,0,0,[]):B1)).1,(ns.getD ((E3 ns).getD k 0).toNat ((0,0,0,[]):B1)).2.1,(ns.getD ((E3 ns).getD k 0).toNat ((0,0,0,[]):B1)).2.2.1,(ns.getD ((E3 ns).getD k 0).toNat ((0,0,0,[]):B1)).2.2.2)).length≤3:=Nat.le_trans (A0n _) hi4
   have hoi:((((E3 ns).getD k 0).toNat:Nat):Int)=(E3 ns).getD k 0:=Int.toNat_of_nonneg ho0
   have hoc2:Marks ns.length (oc.set ((E3 ns).getD k 0).toNat true) (V0 ns k):=by unfold V0;rw[J8 (d:=(0:Int)) (by omega)];have:=hoc.add ho1;rwa [hoi] at this
   refine A2 ?_;simp only[go_sem];refine hK8 _ ?_;refine oS fun _ hK9=>?_;refine A3 ?_;refine oS fun _ hK10=>?_;refine oW G2 ?_;simp only[go_sem];repeat(with_reducible refine oA ?_)
   refine hK10 _ ?_;refine oS fun _ hK11=>?_;refine oW G2 ?_;simp (maxSteps:=2000000)only[go_sem];repeat(with_reducible refine oA ?_)
   refine hK11 _ ?_;refine oS fun _ hK12=>?_
   refine oR G2
     [[],[0],[],[2],[],[4],[],[],[7],[7,8],[],[0,1,2,3,4,5,6,7,8,9,10],[],[0,1,2,3,4,5,6,7,8,9,10,11,12]]
     [[244,756,757,758,759,760,761,762,763,764,765,766,767,768,769,770,771,772,773,774,775,776,777,778,779,780,781,782,783,784,785,786,787],[244,756,757,758,759,760,761,762,763,764,765,766,767,768,769,770,771,772,773,774,775,776,777,778,779,780,781,782,783,784,785,786,787],[244,756,757,758,759,760,761,762,763,764,765,766,767,768,769,770,771,772,773,774,775,776,777,778,779,780,781,782,783,784,785,786,787],[244,756,757,758,759,760,761,762,763,764,765,766,767,768,769,770,771,772,773,774,775,776,777,778,779,780,781,782,783,784,785,786,787],[244,756,757,758,759,760,761,762,763,764,765,766,767,768,769,770,771,772,773,774,775,776,777,778,779,780,781,782,783,784,785,786,787],[244,756,757,758,759,760,761,762,763,764,765,766,767,768,769,770,771,772,773,774,775,776,777,778,779,780,781,782,783,784,785,786,787],[244,756,757,758,759,760,761,762,763,764,765,766,767,768,769,770,771,772,773,774,775,776,777,778,779,780,781,782,783,784,785,786,787],[244],[244],[244],[244,756,757,758,759,760,761,762,763,764,765,766,767,768,769,770,771,772,773,774,775,776,777,778,779,780,781,782,783,784,785,786,787],[244],[756,757,758,759,760,761,762,763,764,765,766,767,768,769,770,771,772,773,774,775,776,777,778,779,780,781,782,783,784,785,786,787],[]]
     [[],[],[],[],[],[],[],[],[756,757,758,759,760,761,762,763,764,765,766,767,768,769,770,771],[772,773,774,775,776,777,778,779,780,781,782,783,784,785,786,787],[],[],[244],[]] (by kernel_rfl) (by kernel_rfl) (A7 (acc:=[]) ?_)
   simp (maxSteps:=2000000)only[go_sem];repeat(with_reducible first|refine oD ?_|refine And.intro (by first|exact Nat.le_trans hwl2 (by decide)|exact Nat.le_trans hi4 (by decide)) ?_)
   refine hK12 _ ?_;refine oS fun _ hK13=>?_;refine oW G2 ?_;simp (maxSteps:=2000000)only[List.nodup_cons,List.nodup_nil,List.not_mem_nil,not_false_eq_true,go_sem];repeat(with_reducible refine oA ?_)
   refine hK13 _ ?_;refine oS fun _ hK14=>?_;refine oW G2 ?_;simp only[List.nodup_nil,go_sem];repeat(with_reducible refine oA ?_)
   refine hK14 _ ?_;refine oS fun _ hK15=>?_;refine oW G2 ?_;simp only[go_sem];repeat(with_reducible refine oA ?_)
   refine hK15 _ ?_;refine A3 ?_;refine A8 (ι:={ s:Nat × List Bool // s.1≤ns.length∧Marks ns.length s.2 (T3 ns k s.1).2 }) (fun k'=>⟨[zz,.c (.po 116 0),zz,.c (.ow 9001),.c (.ow 9002),.c (.ow 9003),zz,zz,zz,zz,zz,zz,zz,zz,zz,zz,zz,zz,zz,zz,zz,zz,.c (.ow 9004),.c (.sc (.int .i64 ((E3 ns).length))),.c (.sc (.int .i64 (k))),zz,zz,zz,zz,zz,zz,zz,zz,zz,zz,zz,zz,zz,zz,zz,zz,zz,zz,zz,zz,zz,zz,zz,zz,zz,zz,zz,zz,.c (.rd [] 67 ((.prod (.int .i64) (.prod (.int .i64) (.prod (.int .i64) (.row 2 (.int .i64)))))) (ns)),.c (.sc (.int .i64 (ns.length))),.c (.sc (.int .i64 (k'.1.1))),zz,zz,zz,zz,zz,zz,zz,zz,zz,zz,zz,zz,zz,zz,zz,zz,zz,zz,zz,zz,zz,zz,zz,zz,zz,zz,zz,zz,zz,zz,zz,zz,zz,zz,zz,zz,zz,zz,zz,zz,zz,zz,zz],[(116,.box [.sc (.int .i64 (pi)),.rd [] 26 ((.row 2 (.int .i64))) (ts),.rd [] 67 ((.prod (.int .i64) (.prod (.int .i64) (.prod (.int .i64) (.row 2 (.int .i64)))))) (ns),.rd [] 2 (.int .i64) (os)]),(9001,.tree 64 (.prod (.int .i64) (.prod (.int .i64) (.prod (.int .i64) (.prod (.int .i64) (.prod (.row 2 (.int .i64)) (.int .i64)))))) ((T3 ns k k'.1.1).1) none),(9002,.row 4 (.bool) (oc.set ((E3 ns).getD k 0).toNat true) []),(9003,.row 4 (.bool) (k'.1.2) []),(9004,.row 2 (.int .i64) (E3 ns) [])]⟩) (fun k'=>ns.length - k'.1.1) ⟨(0,so),by simp,hso⟩ ?_ ?_
   ·
    refine oK ?_;simp (maxSteps:=2000000)only[go_sem];all_goals((repeat' refine And.intro ?_ ?_)<;>first|rfl|(congr 1;done)|(simp;done))
   rintro⟨⟨d,so2⟩,hd,hso2⟩ K16 hL16
   have hd:d≤ns.length:=hd
   have hso2:Marks ns.length so2 (T3 ns k d).2:=hso2
   have hsl2:=hso2.1
   have hco:CodeOk ns (V0 ns k) (T3 ns k d):=B5C (p:=(pi,ts,ns,os)) hF (by show k < (E3 ns).length;omega) hd
   have hcl:=hco.len
   have hcs:=hco.small (p:=(pi,ts,ns,os)) hF
   have hcs:(T3 ns k d).2.length≤ns.length:=hcs
   have htl1:(V0 ns k).length=k+1:=by unfold V0;rw[List.length_take];omega
   have hkd:d < ns.length→(ns.getD d ((0,0,0,[]):B1)).2.2.2.length≤3∧((ns.getD d ((0,0,0,[]):B1)).1=6→(ns.getD d ((0,0,0,[]):B1)).2.2.2.length=1)∧N2 ns.length (ns.getD d ((0,0,0,[]):B1)).2.2.2=true:=fun h=>by obtain⟨a1,a2,a3,a4,a5⟩:=Z8 (p:=(pi,ts,ns,os)) hF (i:=d) h;exact⟨a4,a5,a3⟩
   have hfr0:d < ns.length→0≤(ns.getD d ((0,0,0,[]):B1)).2.2.2.getD 0 0∧(ns.getD d ((0,0,0,[]):B1)).2.2.2.getD 0 0 < ns.length:=fun h=>B0p (p:=(pi,ts,ns,os)) hF (i:=d) h
   have hocs:(oc.set ((E3 ns).getD k 0).toNat true).length=ns.length:=by rw[List.length_set];exact hocl
   have hm1':d < ns.length→(oc.set ((E3 ns).getD k 0).toNat true).getD d false=(V0 ns k).contains (d:Int):=fun h=>hoc2.2 d h
   have hm2':d < ns.length→(oc.set ((E3 ns).getD k 0).toNat true).getD ((ns.getD d ((0,0,0,[]):B1)).2.2.2.getD 0 0).toNat false=(V0 ns k).contains ((ns.getD d ((0,0,0,[]):B1)).2.2.2.getD 0 0):=fun h=>by
     obtain⟨a,b⟩:=hfr0 h
     exact hoc2.at a b
   have hm3':d < ns.length→so2.getD d false=(T3 ns k d).2.contains (d:Int):=fun h=>hso2.2 d h
   refine oS fun _ hK17=>?_;refine oW G2 ?_;simp only[go_sem];refine hK17 _ ?_;refine oS fun _ hK18=>?_;refine oC rfl ?_ ?_
   ·
    intro c1;obtain⟨hk4,hk5,hk6⟩:=hkd (by omega)
    obtain⟨hfr1,hfr2⟩:=hfr0 (by omega)
    have hm1:=hm1' (by omega)
    have hm2:=hm2' (by omega)
    have hm3:=hm3' (by omega)
    refine A2 ?_;simp only[go_sem];refine hK18 _ ?_;refine oS fun _ hK19=>?_;refine A3 ?_;refine oS fun _ hK20=>?_;refine oW G2 ?_;simp (maxSteps:=2000000)only[go_sem];repeat(with_reducible refine oA ?_)
    refine hK20 _ ?_;refine oS fun _ hK21=>?_;refine oW G2 ?_;simp (maxSteps:=2000000)only[hm1,hm2,hm3,go_sem];repeat' (with_reducible first|refine oA ?_|refine And.intro (by first|omega) ?_|refine oT (fun g13=>?_) (fun g13=>?_)|refine oE (fun g13=>?_) (fun g13=>?_))
    all_goals
     refine hK21 _ ?_;refine D5 rfl ?_ ?_
     ·
      intro c2;try simp only[zA,zB,zC,zD,zE,zF,zG,zH,zI] at c2
      all_goals
       have hB:y1 ns (V0 ns k) (T3 ns k d).2 d=true:=B6T (by assumption) (by assumption) (by assumption) (by assumption)
       refine oS fun _ hK22=>?_;refine oW G2 ?_;simp only[List.nodup_nil,go_sem];repeat(with_reducible refine oA ?_)
       refine hK22 _ ?_;refine oW G2 ?_;simp (maxSteps:=2000000)only[List.nodup_cons,List.nodup_nil,List.not_mem_nil,not_false_eq_true,go_sem];repeat(with_reducible first|refine oA ?_|refine And.intro (by first|omega) ?_)
       refine hK19 _ ?_;refine oW G2 ?_;simp only[go_sem];first|(refine hL16 ⟨(d+1,so2.set d true),by show d+1≤_;omega,by show Marks ns.length _ (T3 ns k (d+1)).2;rw[(A5F hB).2];exact hso2.add (by omega)⟩ _ (oK ?_) ?_)|(refine hL16 ⟨(d+1,so2),by show d+1≤_;omega,by show Marks ns.length _ (T3 ns k (d+1)).2;rw[A5L hB];exact hso2⟩ _ (oK ?_) ?_)
       ·
        simp (maxSteps:=2000000)only[go_sem];all_goals((repeat' refine And.intro ?_ ?_)<;>first|rfl|exact wk (by omega)|(rw[A5L hB];done)|(congr 1;exact(A5F hB).1.symm)|(congr 1;done))
       ·
        first|(simp only[];omega)|omega|(simp;omega)
     ·
      intro c2;try simp only[zA,zB,zC,zD,zE,zF,zG,zH,zI] at c2
      all_goals
       have hB:y1 ns (V0 ns k) (T3 ns k d).2 d=false:=by first|exact B7F (by assumption)|exact B71 (by assumption)|exact B7v (by assumption)|exact B82 (by assumption)
       refine A2 ?_;simp only[go_sem];refine hK19 _ ?_;refine oW G2 ?_;simp only[go_sem];first|(refine hL16 ⟨(d+1,so2.set d true),by show d+1≤_;omega,by show Marks ns.length _ (T3 ns k (d+1)).2;rw[(A5F hB).2];exact hso2.add (by omega)⟩ _ (oK ?_) ?_)|(refine hL16 ⟨(d+1,so2),by show d+1≤_;omega,by show Marks ns.length _ (T3 ns k (d+1)).2;rw[A5L hB];exact hso2⟩ _ (oK ?_) ?_)
       ·
        simp (maxSteps:=2000000)only[go_sem];all_goals((repeat' refine And.intro ?_ ?_)<;>first|rfl|exact wk (by omega)|(rw[A5L hB];done)|(congr 1;exact(A5F hB).1.symm)|(congr 1;done))
       ·
        first|(simp only[];omega)|omega|(simp;omega)
   intro c1;have hde:d=ns.length:=by omega
   have hso3:Marks ns.length so2 (R6 ns (E3 ns) (k+1)).2:=by rw[hde] at hso2;exact hso2
   refine B6 ?_;simp only[go_sem];refine hK9 _ ?_;refine oW G2 ?_;simp only[go_sem];refine hL6 ⟨(k+1,oc.set ((E3 ns).getD k 0).toNat true,so2),by show k+1≤_;omega,hoc2,hso3⟩ _ (oK ?_) ?_
   ·
    simp (maxSteps:=2000000)only[go_sem];all_goals((repeat' refine And.intro ?_ ?_)<;>first|rfl|exact wk (by omega)|(congr 1;done)|(rw[hde];rfl))
   ·
    first|(simp only[];omega)|omega|(simp;omega)
  intro c0;refine B6 ?_;simp only[go_sem];refine hK4 _ ?_;refine oS fun _ hK23=>?_;refine oW G2 ?_;simp only[go_sem];refine hK23 _ ?_;refine A0 ?_;simp only[hres,go_sem]
  first
   | exact oF
   | refine ⟨?_, oF⟩
     have hk3:k=(E3 ns).length:=by omega
     clear hK1 hK2 hK3 hK4 hK5 hL6 hK7 hK8 hK23;subst hk3
     rfl
def A5O:G4:=fun f=>if f=48 then some (.p A1t) else A9I f
theorem E7:B5 Tryz.prog A5O:=F8 B3f (B0 Tryz.func48 rfl (by decide)) G2
attribute [go_sem] A5O A1t
def b7:Con:=⟨[.val ((.prod (.int .i64) (.prod (.row 26 (.row 2 (.int .i64))) (.prod (.row 67 (.prod (.int .i64) (.prod (.int .i64) (.prod (.int .i64) (.row 2 (.int .i64)))))) (.row 2 (.int .i64)))))),.val ((.row 64 (.prod (.int .i64) (.prod (.int .i64) (.prod (.int .i64) (.prod (.int .i64) (.prod (.row 2 (.int .i64)) (.int .i64))))))))],[⟨(.row 2 (.int .i64)),true⟩],fun x=>(∀y∈x.2.1,X1 x.1.2.2.1.length y)∧N2 x.1.2.2.1.length x.1.2.2.2=true∧x.1.2.2.1.length≤1000∧x.1.2.2.2.length≤1000,fun x=>K0 x.1.2.2.1.length x.2.1 x.1.2.2.2⟩
theorem A9S:C8 Tryz.prog 49 b7:=by
  refine A4 Tryz.func49 rfl ?_
  have hres:Tryz.f49.results.toList=[.tmp 4]:=rfl
  rintro⟨⟨(pi:Int),(ts:List (List Int)),(ns:List B1),(os:List Int)⟩,(xs:List A1),_⟩ hc hL
  simp only[b7,go_sem] at hL
  obtain⟨⟨⟨lts,lts2⟩,⟨lns,lns2⟩,los⟩,lxs,lxs2⟩:=hL
  simp only[b7,St.init,St.initG,Tryz.ntmps49,go_sem] 
  obtain⟨hX,hO,hnl,hol⟩:=(show (∀y∈xs,X1 ns.length y)∧N2 ns.length os=true∧ns.length≤1000∧os.length≤1000 from hc)
  have hzc:I6 (ns.length:Int) 0 1099511627776=true:=L8 (by omega) (by omega)
  refine oS fun _ hK1=>?_;refine oW E7 ?_;simp only[go_sem];refine hK1 _ ?_;refine oS fun _ hK2=>?_;refine oW E7 ?_;simp (maxSteps:=2000000)only[go_sem];repeat(with_reducible first|refine oA ?_|refine And.intro (by first|exact hzc) ?_)
  refine hK2 _ ?_;refine oS fun _ hK3=>?_;refine oS fun _ hK4=>?_;refine oW E7 ?_;simp only[go_sem];refine hK4 _ ?_;refine A3 ?_;refine A8 (ι:={ k:Nat // k≤ns.length }) (fun k=>⟨[zz,.c (.rd [] 64 ((.prod (.int .i64) (.prod (.int .i64) (.prod (.int .i64) (.prod (.int .i64) (.prod (.row 2 (.int .i64)) (.int .i64))))))) (xs)),.c (.po 132 0),zz,zz,.c (.ow 9001),zz,zz,zz,zz,zz,zz,zz,zz,zz,zz,zz,zz,.c (.sc (.int .i64 (ns.length))),.c (.sc (.int .i64 (k.1))),zz,zz,zz,zz,zz,zz,zz,zz,zz,zz,zz,zz,zz,zz,zz,zz,zz,zz,zz,zz,zz,zz,zz,zz,zz,zz,zz,zz,zz,zz,zz,zz,zz,zz,zz,zz,zz,zz,zz,zz],[(132,.box [.sc (.int .i64 (pi)),.rd [] 26 ((.row 2 (.int .i64))) (ts),.rd [] 67 ((.prod (.int .i64) (.prod (.int .i64) (.prod (.int .i64) (.row 2 (.int .i64)))))) (ns),.rd [] 2 (.int .i64) (os)]),(9001,.row 2 (.int .i64) (N7 (List.replicate ns.length (-1:Int)) (List.replicate ns.length 0) k.1) [])]⟩) (fun k=>ns.length - k.1) ⟨0,by simp⟩ ?_ ?_
  ·
   refine oK ?_;simp (maxSteps:=2000000)only[go_sem];all_goals((repeat' refine And.intro ?_ ?_)<;>first|rfl|exact A0i.symm|(congr 1;done)|(simp;done))
  rintro⟨k,hk⟩ K5 hL5
  have hbl:(N7 (List.replicate ns.length (-1:Int)) (List.replicate ns.length 0) k).length=ns.length:=by rw[A2F (by simp) (by simp;omega)];simp
  have hbs:k < ns.length→(N7 (List.replicate ns.length (-1:Int)) (List.replicate ns.length 0) k).set k (-1)=N7 (List.replicate ns.length (-1:Int)) (List.replicate ns.length 0) (k+1):=fun h=>by have:=A2B (A:=List.replicate ns.length (-1:Int)) (B:=List.replicate ns.length 0) (m:=k) (-1) (by simp) (by simpa using h);rwa [show (List.replicate ns.length (-1:Int)).getD k (-1)=-1 by simp[List.getD,h]] at this
  refine oS fun _ hK6=>?_;refine oW E7 ?_;simp only[go_sem];refine hK6 _ ?_;refine oS fun _ hK7=>?_;refine oC rfl ?_ ?_
  ·
   intro c0;refine A2 ?_;simp only[go_sem];refine hK7 _ ?_;refine oS fun _ hK8=>?_;refine A3 ?_;refine oS fun _ hK9=>?_;refine oW E7 ?_;simp only[go_sem];refine hK9 _ ?_;refine oW E7 ?_;simp only[List.nodup_nil,go_sem];repeat(with_reducible refine oA ?_)
   refine hK8 _ ?_;refine oW E7 ?_;simp only[go_sem];refine hL5 ⟨k+1,by omega⟩ _ (oK ?_) ?_
   ·
    simp (maxSteps:=2000000)only[go_sem];all_goals((repeat' refine And.intro ?_ ?_)<;>first|rfl|exact wk (by omega)|exact hbs (by omega))
   ·
    first|(simp only[];omega)|omega|(simp;omega)
  intro c0;refine B6 ?_;simp only[go_sem];refine hK3 _ ?_;refine oS fun _ hK10=>?_;refine oS fun _ hK11=>?_;refine oW E7 ?_;simp only[go_sem];refine hK11 _ ?_;refine A3 ?_;refine A8 (ι:={ t:Nat // t≤xs.length }) (fun k=>⟨[zz,.c (.rd [] 64 ((.prod (.int .i64) (.prod (.int .i64) (.prod (.int .i64) (.prod (.int .i64) (.prod (.row 2 (.int .i64)) (.int .i64))))))) (xs)),.c (.po 132 0),zz,zz,.c (.ow 9001),zz,zz,zz,zz,zz,zz,zz,zz,zz,zz,zz,zz,zz,zz,zz,zz,zz,zz,zz,zz,.c (.rd [] 64 ((.prod (.int .i64) (.prod (.int .i64) (.prod (.int .i64) (.prod (.int .i64) (.prod (.row 2 (.int .i64)) (.int .i64))))))) (xs)),.c (.sc (.int .i64 (xs.length))),.c (.sc (.int .i64 (k.1))),zz,zz,zz,zz,zz,zz,zz,zz,zz,zz,zz,zz,zz,zz,zz,zz,zz,zz,zz,zz,zz,zz,zz,zz,zz,zz,zz,zz,zz,zz,zz],[(132,.box [.sc (.int .i64 (pi)),.rd [] 26 ((.row 2 (.int .i64))) (ts),.rd [] 67 ((.prod (.int .i64) (.prod (.int .i64) (.prod (.int .i64) (.row 2 (.int .i64)))))) (ns),.rd [] 2 (.int .i64) (os)]),(9001,.row 2 (.int .i64) ((U3 ns.length xs k.1)) [])]⟩) (fun k=>xs.length - k.1) ⟨0,by simp⟩ ?_ ?_
  ·
   refine oK ?_;simp (maxSteps:=2000000)only[go_sem];all_goals((repeat' refine And.intro ?_ ?_)<;>first|rfl|(congr 1;done)|(rw[show k=ns.length by omega];first|rfl|exact A2G (by simp) (by simp))|(simp;done))
  rintro⟨t,ht⟩ K12 hL12
  have hlk:(U3 ns.length xs t).length=ns.length:=o7 t
  have hxo:t < xs.length→X1 ns.length (xs.getD t ((0,0,0,0,[],0):A1)):=fun h=>hX _ (C6 h)
  refine oS fun _ hK13=>?_;refine oW E7 ?_;simp only[go_sem];refine hK13 _ ?_;refine oS fun _ hK14=>?_;refine oC rfl ?_ ?_
  ·
   intro c1;have hxt:=hxo (by omega)
   have hx3:(xs.getD t ((0,0,0,0,[],0):A1)).2.2.2.2.1.length≤3:=hxt.2.2
   refine A2 ?_;simp only[go_sem];refine hK14 _ ?_;refine oS fun _ hK15=>?_;refine A3 ?_;refine oS fun _ hK16=>?_;refine oW E7 ?_;simp (maxSteps:=2000000)only[go_sem];repeat(with_reducible refine oA ?_)
   refine hK16 _ ?_;refine oS fun _ hK17=>?_;refine oW E7 ?_;simp only[go_sem];repeat(with_reducible refine oA ?_)
   refine hK17 _ ?_;refine A3 ?_;refine A8 (ι:={ m:Nat // m≤(xs.getD t ((0,0,0,0,[],0):A1)).2.2.2.2.1.length }) (fun k'=>⟨[zz,.c (.rd [] 64 ((.prod (.int .i64) (.prod (.int .i64) (.prod (.int .i64) (.prod (.int .i64) (.prod (.row 2 (.int .i64)) (.int .i64))))))) (xs)),.c (.po 132 0),zz,zz,.c (.ow 9001),zz,.c (.sc (.int .i64 (t))),zz,zz,zz,zz,zz,zz,zz,zz,zz,zz,zz,zz,zz,zz,zz,zz,zz,zz,.c (.rd [] 64 ((.prod (.int .i64) (.prod (.int .i64) (.prod (.int .i64) (.prod (.int .i64) (.prod (.row 2 (.int .i64)) (.int .i64))))))) (xs)),.c (.sc (.int .i64 (xs.length))),.c (.sc (.int .i64 (t))),zz,zz,zz,zz,zz,.c (.rd [] 2 (.int .i64) ((xs.getD t ((0,0,0,0,[],0):A1)).2.2.2.2.1)),.c (.sc (.int .i64 ((xs.getD t ((0,0,0,0,[],0):A1)).2.2.2.2.1.length))),.c (.sc (.int .i64 (k'.1))),zz,zz,zz,zz,zz,zz,zz,zz,zz,zz,zz,zz,zz,zz,zz,zz,zz,zz,zz,zz,zz,zz,zz],[(132,.box [.sc (.int .i64 (pi)),.rd [] 26 ((.row 2 (.int .i64))) (ts),.rd [] 67 ((.prod (.int .i64) (.prod (.int .i64) (.prod (.int .i64) (.row 2 (.int .i64)))))) (ns),.rd [] 2 (.int .i64) (os)]),(9001,.row 2 (.int .i64) (Q0 (U3 ns.length xs t) ((xs.getD t ((0,0,0,0,[],0):A1)).2.2.2.2.1.take k'.1) (t:Int)) [])]⟩) (fun k'=>(xs.getD t ((0,0,0,0,[],0):A1)).2.2.2.2.1.length - k'.1) ⟨0,by simp⟩ ?_ ?_
   ·
    refine oK ?_;simp (maxSteps:=2000000)only[go_sem];all_goals((repeat' refine And.intro ?_ ?_)<;>first|rfl|(congr 1;done)|(simp;done))
   rintro⟨m,hm⟩ K18 hL18
   have hsl:(Q0 (U3 ns.length xs t) ((xs.getD t ((0,0,0,0,[],0):A1)).2.2.2.2.1.take m) (t:Int)).length=ns.length:=by rw[A0g];exact hlk
   have hix:m < (xs.getD t ((0,0,0,0,[],0):A1)).2.2.2.2.1.length→0≤(xs.getD t ((0,0,0,0,[],0):A1)).2.2.2.2.1.getD m 0∧(xs.getD t ((0,0,0,0,[],0):A1)).2.2.2.2.1.getD m 0≤ns.length - 1:=fun h=>O1 hxt.2.1 (C6 h)
   have hnx:m < (xs.getD t ((0,0,0,0,[],0):A1)).2.2.2.2.1.length→Q0 (U3 ns.length xs t) ((xs.getD t ((0,0,0,0,[],0):A1)).2.2.2.2.1.take (m+1)) (t:Int)=(Q0 (U3 ns.length xs t) ((xs.getD t ((0,0,0,0,[],0):A1)).2.2.2.2.1.take m) (t:Int)).set ((xs.getD t ((0,0,0,0,[],0):A1)).2.2.2.2.1.getD m 0).toNat (t:Int):=fun h=>A4i h
   refine oS fun _ hK19=>?_;refine oW E7 ?_;simp only[go_sem];refine hK19 _ ?_;refine oS fun _ hK20=>?_;refine oC rfl ?_ ?_
   ·
    intro c2;obtain⟨hi1,hi2⟩:=hix (by omega)
    refine A2 ?_;simp only[go_sem];refine hK20 _ ?_;refine oS fun _ hK21=>?_;refine A3 ?_;refine oS fun _ hK22=>?_;refine oW E7 ?_;simp only[go_sem];repeat(with_reducible refine oA ?_)
    refine hK22 _ ?_;refine oW E7 ?_;simp (maxSteps:=2000000)only[List.nodup_nil,go_sem];repeat(with_reducible refine oA ?_)
    refine hK21 _ ?_;refine oW E7 ?_;simp only[go_sem];refine hL18 ⟨m+1,by omega⟩ _ (oK ?_) ?_
    ·
     simp (maxSteps:=2000000)only[go_sem];all_goals((repeat' refine And.intro ?_ ?_)<;>first|rfl|exact wk (by omega)|exact(hnx (by omega)).symm)
    ·
     first|(simp only[];omega)|omega|(simp;omega)
   intro c2;have hms:(xs.getD t ((0,0,0,0,[],0):A1)).2.2.2.2.1.take m=(xs.getD t ((0,0,0,0,[],0):A1)).2.2.2.2.1:=List.take_of_length_le (by omega)
   refine B6 ?_;simp only[go_sem];refine hK15 _ ?_;refine oW E7 ?_;simp only[go_sem];refine hL12 ⟨t+1,by omega⟩ _ (oK ?_) ?_
   ·
    simp (maxSteps:=2000000)only[go_sem];all_goals((repeat' refine And.intro ?_ ?_)<;>first|rfl|exact wk (by omega)|(rw[hms];rfl))
   ·
    first|(simp only[];omega)|omega|(simp;omega)
  intro c1;refine B6 ?_;simp only[go_sem];refine hK10 _ ?_;refine oS fun _ hK23=>?_;refine oS fun _ hK24=>?_;refine oW E7 ?_;simp only[go_sem];repeat(with_reducible refine oA ?_)
  refine hK24 _ ?_;refine A3 ?_;refine A8 (ι:={ m:Nat // m≤os.length }) (fun k'=>⟨[zz,.c (.rd [] 64 ((.prod (.int .i64) (.prod (.int .i64) (.prod (.int .i64) (.prod (.int .i64) (.prod (.row 2 (.int .i64)) (.int .i64))))))) (xs)),zz,zz,zz,.c (.ow 9001),zz,zz,zz,zz,zz,zz,zz,zz,zz,zz,zz,zz,zz,zz,zz,zz,zz,zz,zz,zz,zz,zz,zz,zz,zz,zz,zz,zz,zz,zz,zz,zz,zz,zz,zz,zz,zz,zz,zz,zz,zz,.c (.rd [] 2 (.int .i64) (os)),.c (.sc (.int .i64 (os.length))),.c (.sc (.int .i64 (k'.1))),zz,zz,zz,zz,zz,zz,zz,zz,zz,zz],[(9001,.row 2 (.int .i64) (Q0 (U3 ns.length xs xs.length) (os.take k'.1) (xs.length:Int)) [])]⟩) (fun k'=>os.length - k'.1) ⟨0,by simp⟩ ?_ ?_
  ·
   refine oK ?_;simp (maxSteps:=2000000)only[go_sem];all_goals((repeat' refine And.intro ?_ ?_)<;>first|rfl|(rw[show t=xs.length by omega];rfl)|(congr 1;done)|(simp;done))
  rintro⟨m,hm⟩ K25 hL25
  have hlk9:(U3 ns.length xs xs.length).length=ns.length:=o7 _
  have hsl:(Q0 (U3 ns.length xs xs.length) (os.take m) (xs.length:Int)).length=ns.length:=by rw[A0g];exact hlk9
  have hix:m < os.length→0≤os.getD m 0∧os.getD m 0≤ns.length - 1:=fun h=>O1 hO (C6 h)
  have hnx:m < os.length→Q0 (U3 ns.length xs xs.length) (os.take (m+1)) (xs.length:Int)=(Q0 (U3 ns.length xs xs.length) (os.take m) (xs.length:Int)).set (os.getD m 0).toNat (xs.length:Int):=fun h=>A4i h
  refine oS fun _ hK26=>?_;refine oW E7 ?_;simp only[go_sem];refine hK26 _ ?_;refine oS fun _ hK27=>?_;refine oC rfl ?_ ?_
  ·
   intro c3;obtain⟨hi1,hi2⟩:=hix (by omega)
   refine A2 ?_;simp only[go_sem];refine hK27 _ ?_;refine oS fun _ hK28=>?_;refine A3 ?_;refine oS fun _ hK29=>?_;refine oW E7 ?_;simp only[go_sem];repeat(with_reducible refine oA ?_)
   refine hK29 _ ?_;refine oW E7 ?_;simp (maxSteps:=2000000)only[List.nodup_nil,go_sem];repeat(with_reducible refine oA ?_)
   refine hK28 _ ?_;refine oW E7 ?_;simp only[go_sem];refine hL25 ⟨m+1,by omega⟩ _ (oK ?_) ?_
   ·
    simp (maxSteps:=2000000)only[go_sem];all_goals((repeat' refine And.intro ?_ ?_)<;>first|rfl|exact wk (by omega)|exact(hnx (by omega)).symm)
   ·
    first|(simp only[];omega)|omega|(simp;omega)
  intro c3;refine B6 ?_;simp only[go_sem];refine hK23 _ ?_;refine oS fun _ hK30=>?_;refine oW E7 ?_;simp only[go_sem];refine hK30 _ ?_;refine A0 ?_;simp only[hres,go_sem]
  first
   | exact oF
   | refine ⟨?_, oF⟩
     have hm3:m=os.length:=by omega
     clear hK1 hK2 hK3 hK4 hL5 hK6 hK7 hK10 hK11 hL12 hK13 hK14 hK23 hK24 hL25 hK26 hK27 hK30;subst hm3;unfold K0;rw[List.take_of_length_le (by omega)]
def A1r:G4:=fun f=>if f=49 then some (.p b7) else A5O f
theorem B9:B5 Tryz.prog A1r:=F8 A9S (B0 Tryz.func49 rfl (by decide)) E7
attribute [go_sem] A1r b7
end Go.Proofs.YtenjbehedcegdaaGreat
