/-
  Texts of this claim, joined (part 51). No condition beyond those of the theorems.
-/
import Derived.Test.YtflobmmbhaofbaaGreatQ38
import Derived.Test.YtflobmmbhaofbaaGreatQ46
import Derived.Test.YtflobmmbhaofbaaGreatQ32
import Derived.Test.YtflobmmbhaofbaaGreatQ49
import Derived.Test.YtflobmmbhaofbaaGreatQ50
namespace Go.Proofs.YtflobmmbhaofbaaGreat
open Go.RowKit
set_option linter.unusedSimpArgs false
set_option linter.unusedVariables false
set_option maxRecDepth 100000
set_option maxHeartbeats 16000000
def A9E:F8:=fun f=>match A4N f with
 | some k=>some k
 | none=>A2U f
theorem B2j:B8 Tryz.prog A9E:=T3 A9X A7b
attribute [go_sem] A9E T0
def A7i:F8:=fun f=>match A9E f with
 | some k=>some k
 | none=>A2x f
theorem B3D:B8 Tryz.prog A7i:=T3 B2j A8P
attribute [go_sem] A7i T0
def A90:F8:=fun f=>match A7i f with
 | some k=>some k
 | none=>A21 f
theorem B4M:B8 Tryz.prog A90:=T3 B3D A7C
attribute [go_sem] A90 T0
def A7m:F8:=fun f=>match A90 f with
 | some k=>some k
 | none=>A4M f
theorem E3:B8 Tryz.prog A7m:=T3 B4M A9c
attribute [go_sem] A7m T0
theorem I4 {P:Program} {G:TypeId→Option Ty} {T:F8} {all l:List Oper} {σ:St} {K:St→Prop} (n:Nat) (hn:Nat.ble l.length n=true) (h:A8e P G T all (l.take n) σ K):A8e P G T all l σ K:=by
  rwa [List.take_of_length_le (Nat.le_of_ble_eq_true hn)] at h
def W8:Con:=⟨[.val ((.row 5 (.int .u8))),.val ((.row 5 (.int .u8)))],[⟨.bool,true⟩],fun x=>(∀b∈(x.1:List Int),0≤b∧b≤255)∧∀b∈(x.2.1:List Int),0≤b∧b≤255,fun _=>true⟩
theorem B0i:D4 Tryz.prog 3 W8:=by
  refine A7 Tryz.func3 rfl ?_
  have hres:Tryz.f3.results.toList=[.tmp 4]:=rfl
  rintro⟨(cd:List Int),(mr:List Int),_⟩ hc hL
  simp only[W8,go_sem] at hL
  simp only[W8,St.init,St.initG,Tryz.ntmps3,go_sem] 
  obtain⟨hcd,hmb⟩:=(show (∀b∈cd,0≤b∧b≤255)∧∀b∈mr,0≤b∧b≤255 from hc)
  rcases hD:C2n cd with⟨⟨pi,ts,ns,os⟩,pi2,ts2,ns2,os2⟩
  rcases hR:r5 (pi,ts,ns,os) (pi2,ts2,ns2,os2) with⟨sm,ec⟩
  have hR2:r5 (pi2,ts2,ns2,os2) (pi,ts,ns,os)=(sm,ec):=by rw[B7l];exact hR
  have hec:=C1q hR
  rcases hm:Y1 (pi,ts,ns,os) with⟨qi,qt,qn,qo⟩
  refine oS fun _ hK1=>?_;refine oW E3 ?_;refine I4 200 (by rfl) ?_
  simp only[go_sem];repeat(with_reducible first|refine oA ?_|refine And.intro (by first|exact hcd|exact hci|exact⟨by omega,by omega⟩|omega) ?_)
  refine hK1 _ ?_;refine oS fun _ hK2=>?_;refine oS fun _ hK3=>?_;refine oW E3 ?_;refine I4 200 (by rfl) ?_
  simp (maxSteps:=2000000)only[go_sem];repeat' (with_reducible first|refine oA ?_|refine And.intro (by first|exact hcd|exact hci|exact⟨by omega,by omega⟩|omega) ?_|refine oT (fun g1=>?_) (fun g1=>?_)|refine oE (fun g1=>?_) (fun g1=>?_))
  all_goals
   refine hK3 _ ?_;refine D2 rfl ?_ ?_
   ·
    intro c0;try simp only[zA,zB,zC,zD,zE,zF,zG,zH,zI] at c0
    all_goals
     refine oS fun _ hK4=>?_;refine oW E3 ?_;refine I4 200 (by rfl) ?_
     simp only[go_sem];repeat(with_reducible first|refine oA ?_|refine And.intro (by first|exact hcd|exact hci|exact⟨by omega,by omega⟩|omega) ?_)
     refine hK4 _ ?_;refine A2 ?_;simp only[hres,go_sem];first|exact oF|(refine⟨?_,oF⟩;first|rfl|done)
   ·
    intro c0;try simp only[zA,zB,zC,zD,zE,zF,zG,zH,zI] at c0
    all_goals
     refine A3 ?_;simp only[go_sem];refine hK2 _ ?_;refine oS fun _ hK5=>?_;refine oW E3 ?_;refine I4 200 (by rfl) ?_
     simp (maxSteps:=2000000)only[List.nodup_cons,List.nodup_nil,List.not_mem_nil,not_false_eq_true,hD,go_sem];repeat(with_reducible first|refine oA ?_|refine And.intro (by first|exact hcd|exact hci|exact⟨by omega,by omega⟩|omega) ?_)
     refine hK5 _ ?_;refine oS fun _ hK6=>?_;refine oW E3 ?_;refine I4 200 (by rfl) ?_
     simp (maxSteps:=2000000)only[List.nodup_cons,List.nodup_nil,List.not_mem_nil,not_false_eq_true,hR,go_sem];repeat(with_reducible first|refine oA ?_|refine And.intro (by first|exact hcd|exact hci|exact⟨by omega,by omega⟩|omega) ?_)
     refine hK6 _ ?_;refine oS fun _ hK7=>?_;refine oW E3 ?_;refine I4 200 (by rfl) ?_
     simp (maxSteps:=2000000)only[List.nodup_cons,List.nodup_nil,List.not_mem_nil,not_false_eq_true,hR2,go_sem];repeat(with_reducible first|refine oA ?_|refine And.intro (by first|exact hcd|exact hci|exact⟨by omega,by omega⟩|omega) ?_)
     refine hK7 _ ?_;refine oS fun _ hK8=>?_;refine oS fun _ hK9=>?_;refine oW E3 ?_;refine I4 200 (by rfl) ?_
     simp (maxSteps:=2000000)only[go_sem];repeat' (with_reducible first|refine oA ?_|refine And.intro (by first|exact hcd|exact hci|exact⟨by omega,by omega⟩|omega) ?_|refine oT (fun g6=>?_) (fun g6=>?_)|refine oE (fun g6=>?_) (fun g6=>?_))
     all_goals
      refine hK9 _ ?_;refine D2 rfl ?_ ?_
      ·
       intro c1;try simp only[zA,zB,zC,zD,zE,zF,zG,zH,zI] at c1
       all_goals
        all_goals(exfalso;clear hK1 hK2 hK3 hK5 hK6 hK7 hK8 hK9;simp_all;try omega)
      ·
       intro c1;try simp only[zA,zB,zC,zD,zE,zF,zG,zH,zI] at c1
       all_goals
        refine A3 ?_;simp only[go_sem];refine hK8 _ ?_;refine oS fun _ hK10=>?_;refine oS fun _ hK11=>?_;refine oW E3 ?_;refine I4 200 (by rfl) ?_
        simp only[go_sem];repeat(with_reducible first|refine oA ?_|refine And.intro (by first|exact hcd|exact hci|exact⟨by omega,by omega⟩|omega) ?_)
        refine hK11 _ ?_;refine D2 rfl ?_ ?_
        ·
         intro c2;try simp only[zA,zB,zC,zD,zE,zF,zG,zH,zI] at c2
         all_goals
          refine oS fun _ hK12=>?_;refine oW E3 ?_;refine I4 200 (by rfl) ?_
          simp only[go_sem];repeat(with_reducible first|refine oA ?_|refine And.intro (by first|exact hcd|exact hci|exact⟨by omega,by omega⟩|omega) ?_)
          refine hK12 _ ?_;refine A2 ?_;simp only[hres,go_sem];first|exact oF|(refine⟨?_,oF⟩;first|rfl|done)
        ·
         intro c2;try simp only[zA,zB,zC,zD,zE,zF,zG,zH,zI] at c2
         all_goals
          have he0:ec=0:=by first|assumption|omega
          have h0:j8 (pi,ts,ns,os) (pi2,ts2,ns2,os2)=0:=by rw[←hec];exact he0
          obtain⟨hP,hQ,hpq⟩:=B1q h0
          have hself:=B4e hP
          have hmr2:A6F (pi,ts,ns,os)=((qi,qt,qn,qo),0):=by rw[B3s hP,hm]
          have hmg:=B43 hP
          rw[hm] at hmg;have hF:=(A9 hP).1
          have hpi:0≤pi∧pi≤4:=⟨(A8 hF).2.2.2.1,(A8 hF).2.2.2.2.1⟩
          have hpn:((pi.toNat:Nat):Int)=pi:=Int.toNat_of_nonneg hpi.1
          refine A3 ?_;simp only[go_sem];refine hK10 _ ?_;refine oS fun _ hK13=>?_;refine oW E3 ?_;refine I4 200 (by rfl) ?_
          simp (maxSteps:=2000000)only[List.nodup_cons,List.nodup_nil,List.not_mem_nil,not_false_eq_true,hself,go_sem];repeat(with_reducible first|refine oA ?_|refine And.intro (by first|exact hcd|exact hci|exact⟨by omega,by omega⟩|omega) ?_)
          refine hK13 _ ?_;refine oS fun _ hK14=>?_;refine oW E3 ?_;refine I4 200 (by rfl) ?_
          simp (maxSteps:=2000000)only[List.nodup_cons,List.nodup_nil,List.not_mem_nil,not_false_eq_true,hmr2,go_sem];repeat(with_reducible first|refine oA ?_|refine And.intro (by first|exact hcd|exact hci|exact⟨by omega,by omega⟩|omega) ?_)
          refine hK14 _ ?_;refine oS fun _ hK15=>?_;refine oW E3 ?_;refine I4 200 (by rfl) ?_
          simp (maxSteps:=2000000)only[List.nodup_cons,List.nodup_nil,List.not_mem_nil,not_false_eq_true,hmg,go_sem];repeat(with_reducible first|refine oA ?_|refine And.intro (by first|exact hcd|exact hci|exact⟨by omega,by omega⟩|omega) ?_)
          refine hK15 _ ?_;refine oS fun _ hK16=>?_;refine oS fun _ hK17=>?_;refine oW E3 ?_;refine I4 200 (by rfl) ?_
          simp (maxSteps:=2000000)only[go_sem];repeat' (with_reducible first|refine oA ?_|refine And.intro (by first|exact hcd|exact hci|exact⟨by omega,by omega⟩|omega) ?_|refine oT (fun g13=>?_) (fun g13=>?_)|refine oE (fun g13=>?_) (fun g13=>?_))
          all_goals
           refine hK17 _ ?_;refine D2 rfl ?_ ?_
           ·
            intro c3;try simp only[zA,zB,zC,zD,zE,zF,zG,zH,zI] at c3
            all_goals
             all_goals(exfalso;clear hK1 hK2 hK3 hK5 hK6 hK7 hK8 hK9 hK10 hK11 hK13 hK14 hK15 hK16 hK17;simp_all;try omega)
           ·
            intro c3;try simp only[zA,zB,zC,zD,zE,zF,zG,zH,zI] at c3
            all_goals
             refine A3 ?_;simp only[go_sem];refine hK16 _ ?_;refine oS fun _ hK18=>?_;refine oS fun _ hK19=>?_;refine oW E3 ?_;refine I4 200 (by rfl) ?_
             simp only[go_sem];repeat(with_reducible first|refine oA ?_|refine And.intro (by first|exact hcd|exact hci|exact⟨by omega,by omega⟩|omega) ?_)
             refine hK19 _ ?_;refine D2 rfl ?_ ?_
             ·
              intro c4;try simp only[zA,zB,zC,zD,zE,zF,zG,zH,zI] at c4
              all_goals
               refine oS fun _ hK20=>?_;refine oW E3 ?_;refine I4 200 (by rfl) ?_
               simp only[go_sem];repeat(with_reducible first|refine oA ?_|refine And.intro (by first|exact hcd|exact hci|exact⟨by omega,by omega⟩|omega) ?_)
               refine hK20 _ ?_;refine A2 ?_;simp only[hres,go_sem];first|exact oF|(refine⟨?_,oF⟩;first|rfl|done)
             ·
              intro c4;try simp only[zA,zB,zC,zD,zE,zF,zG,zH,zI] at c4
              all_goals
               have hsm:sm=true:=by first|assumption|(clear hK1 hK2 hK3 hK5 hK6 hK7 hK8 hK9 hK10 hK11 hK13 hK14 hK15 hK16 hK17 hK18 hK19;simp_all;done)
               subst hsm;refine A3 ?_;simp only[go_sem];refine hK18 _ ?_;refine oS fun _ hK21=>?_;refine oW E3 ?_;refine I4 200 (by rfl) ?_
               simp only[List.nodup_cons,List.nodup_nil,List.not_mem_nil,not_false_eq_true,go_sem];repeat(with_reducible first|refine oA ?_|refine And.intro (by first|exact hcd|exact hci|exact⟨by omega,by omega⟩|omega) ?_)
               refine hK21 _ ?_;refine oS fun _ hK22=>?_;refine oS fun _ hK23=>?_;refine oW E3 ?_;refine I4 200 (by rfl) ?_
               simp only[go_sem];repeat(with_reducible first|refine oA ?_|refine And.intro (by first|exact hcd|exact hci|exact⟨by omega,by omega⟩|omega) ?_)
               refine hK23 _ ?_;refine A5 ?_;refine B4 (ι:={ i:Nat // i≤pi.toNat }) (fun k=>⟨(zz::.c (.rd [] 5 (.int .u8) (mr))::zz::zz::zz::.c (.po 180 0)::.c (.po 196 0)::zz::zz::zz::zz::zz::zz::zz::zz::zz::zz::.c (.ow 9017)::.c (.sc (.int .i64 (k.1)))::zz::zz::zz::zz::zz::zz::zz::zz::zz::zz::zz::zz::zz::zz::zz::zz::zz::zz::zz::zz::zz::zz::zz::zz::zz::zz::zz::zz::zz::zz::zz::zz::zz::zz::zz::zz::zz::zz::zz::zz::zz::zz::zz::zz::zz::zz::zz::zz::zz::zz::zz::zz::zz::zz::zz::zz::zz::zz::zz::zz::zz::zz::zz::zz::zz::zz::zz::zz::zz::zz::zz::zz::zz::zz::zz::zz::zz::zz::zz::zz::zz::zz::zz::zz::zz::zz::zz::zz::zz::zz::zz::zz::zz::zz::zz::zz::zz::zz::zz::zz::zz::zz::zz::zz::zz::zz::zz::zz::zz::zz::zz::zz::zz::zz::zz::zz::zz::zz::zz::zz::zz::zz::zz::zz::zz::zz::[]),[(180,.box [.sc (.int .i64 (pi)),.rd [] 26 ((.row 2 (.int .i64))) (ts),.rd [] 56 ((.prod (.int .i64) (.prod (.int .i64) (.prod (.int .i64) (.row 2 (.int .i64)))))) (ns),.rd [] 2 (.int .i64) (os)]),(196,.box [.sc (.int .i64 (pi2)),.rd [] 26 ((.row 2 (.int .i64))) (ts2),.rd [] 56 ((.prod (.int .i64) (.prod (.int .i64) (.prod (.int .i64) (.row 2 (.int .i64)))))) (ns2),.rd [] 2 (.int .i64) (os2)]),(9017,.tree 26 (.row 2 (.int .i64)) (inQ mr k.1) none)]⟩) (fun k=>pi.toNat - k.1) ⟨0,by omega⟩ ?_ ?_
               ·
                refine oK ?_;simp (maxSteps:=2000000)only[go_sem];all_goals((repeat' refine And.intro ?_ ?_)<;>first|rfl|(congr 1;done)|(simp;done))
               rintro⟨i,hi⟩ K24 hL24
               have hw1:IntKind.i64.wrap (8 * (i:Int))=8 * i:=G9 (by omega)
               have hil:(inQ mr i).length=i:=B6L _ _
               refine oS fun _ hK25=>?_;refine oS fun _ hK26=>?_;refine oW E3 ?_;refine I4 200 (by rfl) ?_
               simp only[go_sem];repeat(with_reducible first|refine oA ?_|refine And.intro (by first|exact hcd|exact hci|exact⟨by omega,by omega⟩|omega) ?_)
               refine hK26 _ ?_;refine D2 rfl ?_ ?_
               ·
                intro c5;try simp only[zA,zB,zC,zD,zE,zF,zG,zH,zI] at c5
                all_goals
                 refine A3 ?_;simp only[go_sem];refine hK25 _ ?_;refine oS fun _ hK27=>?_;refine A5 ?_;refine oS fun _ hK28=>?_;refine oW E3 ?_;refine I4 200 (by rfl) ?_
                 simp only[List.nodup_cons,List.nodup_nil,List.not_mem_nil,not_false_eq_true,go_sem];repeat(with_reducible first|refine oA ?_|refine And.intro (by first|exact hcd|exact hci|exact⟨by omega,by omega⟩|omega) ?_)
                 refine hK28 _ ?_;refine oS fun _ hK29=>?_;refine oS fun _ hK30=>?_;refine oW E3 ?_;refine I4 200 (by rfl) ?_
                 simp only[go_sem];repeat(with_reducible first|refine oA ?_|refine And.intro (by first|exact hcd|exact hci|exact⟨by omega,by omega⟩|omega) ?_)
                 refine hK30 _ ?_;refine A5 ?_;refine B4 (ι:={ m:Nat // m≤8 }) (fun k'=>⟨(zz::.c (.rd [] 5 (.int .u8) (mr))::zz::zz::zz::.c (.po 180 0)::.c (.po 196 0)::zz::zz::zz::zz::zz::zz::zz::zz::zz::zz::.c (.ow 9017)::.c (.sc (.int .i64 (i)))::.c (.ow 9019)::.c (.sc (.int .i64 (k'.1)))::zz::zz::zz::zz::zz::zz::zz::zz::zz::zz::zz::zz::zz::zz::zz::zz::zz::zz::zz::zz::zz::zz::zz::zz::zz::zz::zz::zz::zz::zz::zz::zz::zz::zz::zz::zz::zz::zz::zz::zz::zz::zz::zz::zz::zz::zz::zz::zz::zz::zz::zz::zz::zz::zz::zz::zz::zz::zz::zz::zz::zz::zz::zz::zz::zz::zz::zz::zz::zz::zz::zz::zz::zz::zz::zz::zz::zz::zz::zz::zz::zz::zz::zz::zz::zz::zz::zz::zz::zz::zz::zz::zz::zz::zz::zz::zz::zz::zz::zz::zz::zz::zz::zz::zz::zz::zz::zz::zz::zz::zz::zz::zz::zz::zz::zz::zz::zz::zz::zz::zz::zz::zz::zz::zz::[]),[(180,.box [.sc (.int .i64 (pi)),.rd [] 26 ((.row 2 (.int .i64))) (ts),.rd [] 56 ((.prod (.int .i64) (.prod (.int .i64) (.prod (.int .i64) (.row 2 (.int .i64)))))) (ns),.rd [] 2 (.int .i64) (os)]),(196,.box [.sc (.int .i64 (pi2)),.rd [] 26 ((.row 2 (.int .i64))) (ts2),.rd [] 56 ((.prod (.int .i64) (.prod (.int .i64) (.prod (.int .i64) (.row 2 (.int .i64)))))) (ns2),.rd [] 2 (.int .i64) (os2)]),(9017,.tree 26 (.row 2 (.int .i64)) (inQ mr i) none),(9019,.row 2 (.int .i64) ((A7l (sgQ mr i) k'.1)) [])]⟩) (fun k'=>8 - k'.1) ⟨0,by omega⟩ ?_ ?_
                 ·
                  refine oK ?_;simp (maxSteps:=2000000)only[go_sem];all_goals((repeat' refine And.intro ?_ ?_)<;>first|rfl|(congr 1;done)|(simp;done))
                 rintro⟨m,hm'⟩ K31 hL31
                 have hw2:IntKind.i64.wrap (8 * (i:Int)+(m:Int))=8 * i+m:=G9 (by omega)
                 have hb5:=B6R (i:=8 * (i:Int)+m) (n:=256) hmb (by omega) (by omega)
                 have hwb:IntKind.i64.wrap ((atD mr (8 * (i:Int)+(m:Int)) 256) - 128)=(atD mr (8 * (i:Int)+(m:Int)) 256) - 128:=G9 (by omega)
                 have hwc:IntKind.i64.wrap (9000000 * ((atD mr (8 * (i:Int)+(m:Int)) 256) - 128))=9000000 * ((atD mr (8 * (i:Int)+(m:Int)) 256) - 128):=G9 (by omega)
                 have hci:O7 (8 * (i:Int)+(m:Int)) 0 1000000=true:=L2 (by omega) (by omega)
                 have hrl:(A7l (sgQ mr i) m).length=m:=A8B _ _
                 have hrn:(A7l (sgQ mr i) m)++[9000000 * ((atD mr (8 * (i:Int)+(m:Int)) 256) - 128)]=(A7l (sgQ mr i) (m+1)):=B87 (sgQ mr i) m
                 refine oS fun _ hK32=>?_;refine oS fun _ hK33=>?_;refine oW E3 ?_;refine I4 200 (by rfl) ?_
                 simp only[go_sem];repeat(with_reducible first|refine oA ?_|refine And.intro (by first|exact hcd|exact hci|exact⟨by omega,by omega⟩|omega) ?_)
                 refine hK33 _ ?_;refine D2 rfl ?_ ?_
                 ·
                  intro c6;try simp only[zA,zB,zC,zD,zE,zF,zG,zH,zI] at c6
                  all_goals
                   refine A3 ?_;simp only[go_sem];refine hK32 _ ?_;refine oS fun _ hK34=>?_;refine A5 ?_;refine oW E3 ?_;refine I4 200 (by rfl) ?_
                   simp (maxSteps:=2000000)only[hw1,hw2,hwb,hwc,hrl,go_sem];repeat(with_reducible first|refine oA ?_|refine And.intro (by first|exact hcd|exact hci|exact⟨by omega,by omega⟩|omega) ?_)
                   refine hK34 _ ?_;refine oW E3 ?_;refine I4 200 (by rfl) ?_
                   simp only[go_sem];repeat(with_reducible first|refine oA ?_|refine And.intro (by first|exact hcd|exact hci|exact⟨by omega,by omega⟩|omega) ?_)
                   refine hL31 ⟨m+1,by omega⟩ _ (oK ?_) ?_
                   ·
                    simp (maxSteps:=2000000)only[go_sem];all_goals((repeat' refine And.intro ?_ ?_)<;>first|rfl|exact True.intro|exact wk (by omega)|omega|exact hrn|(congr 1;exact hrn)|(congr 1;done)|(simp;done))
                   ·
                    first|(simp only[];omega)|omega|(simp;omega)
                 ·
                  intro c6;try simp only[zA,zB,zC,zD,zE,zF,zG,zH,zI] at c6
                  all_goals
                   obtain rfl:m=8:=by omega
                   have hrl8:(A7l (sgQ mr i) 8).length=8:=A8B _ _
                   have hin1:=C0f mr i
                   refine C2 ?_;simp only[go_sem];refine hK29 _ ?_;refine oW E3 ?_;refine I4 200 (by rfl) ?_
                   simp (maxSteps:=2000000)only[List.nodup_cons,List.nodup_nil,List.not_mem_nil,not_false_eq_true,hil,hrl8,go_sem];repeat(with_reducible first|refine oA ?_|refine And.intro (by first|exact hcd|exact hci|exact⟨by omega,by omega⟩|omega) ?_)
                   refine hK27 _ ?_;refine oW E3 ?_;refine I4 200 (by rfl) ?_
                   simp only[go_sem];repeat(with_reducible first|refine oA ?_|refine And.intro (by first|exact hcd|exact hci|exact⟨by omega,by omega⟩|omega) ?_)
                   refine hL24 ⟨i+1,by omega⟩ _ (oK ?_) ?_
                   ·
                    simp (maxSteps:=2000000)only[go_sem];all_goals((repeat' refine And.intro ?_ ?_)<;>first|rfl|exact True.intro|exact wk (by omega)|omega|exact hin1|(congr 1;exact hin1)|(congr 1;done)|(simp;done))
                   ·
                    first|(simp only[];omega)|omega|(simp;omega)
               ·
                intro c5;try simp only[zA,zB,zC,zD,zE,zF,zG,zH,zI] at c5
                all_goals
                 obtain rfl:i=pi.toNat:=by omega
                 have hin0:d9 (pi,ts,ns,os) (inQ mr pi.toNat):=C3a hmb hpn
                 have hr1:y8 (pi,ts,ns,os) (inQ mr pi.toNat) 16=(P7 (pi,ts,ns,os) (inQ mr pi.toNat) 16,0):=A3N hP (by rw[A94.2 hin0];rfl)
                 have hr2:y8 (pi2,ts2,ns2,os2) (inQ mr pi.toNat) 16=(P7 (pi,ts,ns,os) (inQ mr pi.toNat) 16,0):=by
                   rw[B3v hR h0 hin0 16];exact A3N hQ (by rw[A94.2 (show d9 (pi2,ts2,ns2,os2) (inQ mr pi.toNat) from ⟨by rw[hin0.1];exact hpq,hin0.2⟩)];rfl)
                 refine C2 ?_;simp only[go_sem];refine hK22 _ ?_;refine oS fun _ hK35=>?_;refine oW E3 ?_;refine I4 200 (by rfl) ?_
                 simp (maxSteps:=2000000)only[List.nodup_cons,List.nodup_nil,List.not_mem_nil,not_false_eq_true,hr1,go_sem];repeat(with_reducible first|refine oA ?_|refine And.intro (by first|exact hcd|exact hci|exact⟨by omega,by omega⟩|omega) ?_)
                 refine hK35 _ ?_;refine oS fun _ hK36=>?_;refine oW E3 ?_;refine I4 200 (by rfl) ?_
                 simp (maxSteps:=2000000)only[List.nodup_cons,List.nodup_nil,List.not_mem_nil,not_false_eq_true,hr2,go_sem];repeat(with_reducible first|refine oA ?_|refine And.intro (by first|exact hcd|exact hci|exact⟨by omega,by omega⟩|omega) ?_)
                 refine hK36 _ ?_;refine oS fun _ hK37=>?_;refine oW E3 ?_;refine I4 200 (by rfl) ?_
                 simp (maxSteps:=2000000)only[B6u,go_sem];repeat' (with_reducible first|refine oA ?_|refine And.intro (by first|exact hcd|exact hci|exact⟨by omega,by omega⟩|omega) ?_|refine oT (fun g29=>?_) (fun g29=>?_)|refine oE (fun g29=>?_) (fun g29=>?_))
                 all_goals
                  refine hK37 _ ?_;refine A2 ?_;simp only[hres,go_sem];first|exact oF|(refine⟨?_,oF⟩;first|rfl|done)
def B4H:F8:=fun f=>if f=3 then some (.p W8) else A7m f
attribute [go_sem] B4H W8
end Go.Proofs.YtflobmmbhaofbaaGreat
