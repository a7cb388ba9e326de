/-
  Texts of this claim, joined (part 53). No condition beyond those of the theorems.
-/
import Derived.Test.YtgaogcnfijbahaaGreatQ27
import Derived.Test.YtgaogcnfijbahaaGreatQ33
import Derived.Test.YtgaogcnfijbahaaGreatQ50
import Derived.Test.YtgaogcnfijbahaaGreatQ19
import Derived.Test.YtgaogcnfijbahaaGreatQ51
import Derived.Test.YtgaogcnfijbahaaGreatQ52
namespace Go.Proofs.YtgaogcnfijbahaaGreat
open Go.RowKit
set_option linter.unusedSimpArgs false
set_option linter.unusedVariables false
set_option maxRecDepth 100000
set_option maxHeartbeats 16000000
def B0L:E4:=fun f=>match A7Y f with
 | some k=>some k
 | none=>A2w f
theorem B5V:B4 Tryz.prog B0L:=N2 B2R A8K
attribute [go_sem] B0L T0
def A9h:E4:=fun f=>match B0L f with
 | some k=>some k
 | none=>A42 f
theorem B4p:B4 Tryz.prog A9h:=N2 B5V A9c
attribute [go_sem] A9h T0
def A9p:E4:=fun f=>match A9h f with
 | some k=>some k
 | none=>A5A f
theorem B63:B4 Tryz.prog A9p:=N2 B4p B10
attribute [go_sem] A9p T0
def B0R:E4:=fun f=>match A9p f with
 | some k=>some k
 | none=>B0k f
theorem B53:B4 Tryz.prog B0R:=N2 B63 B67
attribute [go_sem] B0R T0
def A8v:E4:=fun f=>match B0R f with
 | some k=>some k
 | none=>A7H f
theorem D8:B4 Tryz.prog A8v:=N2 B53 B30
attribute [go_sem] A8v T0
theorem J2 {P:Program} {G:TypeId→Option Ty} {T:E4} {all l:List Oper} {σ:St} {K:St→Prop} (n:Nat) (hn:Nat.ble l.length n=true) (h:A9a P G T all (l.take n) σ K):A9a P G T all l σ K:=by
  rwa [List.take_of_length_le (Nat.le_of_ble_eq_true hn)] at h
def Z9:Con:=⟨[.val ((.row 5 (.int .u8))),.val ((.row 5 (.int .u8)))],[⟨.bool,true⟩],fun x=>(∀b∈(x.1:List Int),0≤b∧b≤255)∧∀b∈(x.2.1:List Int),0≤b∧b≤255,fun _=>true⟩
theorem B4s:C9 Tryz.prog 3 Z9:=by
  refine A4 Tryz.func3 rfl ?_
  have hres:Tryz.f3.results.toList=[.tmp 4]:=rfl
  rintro⟨(cd:List Int),(mr:List Int),_⟩ hc hL
  simp only[Z9,go_sem] at hL
  simp only[Z9,St.init,St.initG,Tryz.ntmps3,go_sem] 
  obtain⟨hcd,hmr⟩:=(show (∀b∈cd,0≤b∧b≤255)∧∀b∈mr,0≤b∧b≤255 from hc)
  rcases hD:B5o cd with⟨⟨pi,ts,ns,os⟩,pi2,ts2,ns2,os2⟩
  rcases hR:A7J (pi,ts,ns,os) (pi2,ts2,ns2,os2) with⟨sm,ec⟩
  have hec:=C7w hR
  rcases hX:F6 (D0 (pi,ts,ns,os)) with⟨ni,la,lb,lc,ld⟩
  rcases hY:F6 (D0 (pi2,ts2,ns2,os2)) with⟨ni2,la2,lb2,lc2,ld2⟩
  obtain⟨ins,hins⟩:∃ins,B4h mr (Int.toNat pi)=ins:=⟨_,rfl⟩
  obtain⟨ym,hym⟩:∃ym,H9 (pi,ts,ns,os) ins 12=ym:=⟨_,rfl⟩
  refine oS fun _ hK1=>?_;refine oW D8 ?_;refine J2 200 (by rfl) ?_
  simp only[go_sem];refine hK1 _ ?_;refine oS fun _ hK2=>?_;refine oS fun _ hK3=>?_;refine oW D8 ?_;refine J2 200 (by rfl) ?_
  simp only[go_sem];repeat(with_reducible refine oA ?_)
  refine hK3 _ ?_;refine oC rfl ?_ ?_
  ·
   intro c0;refine oS fun _ hK4=>?_;refine oW D8 ?_;refine J2 200 (by rfl) ?_
   simp only[go_sem];refine hK4 _ ?_;refine A0 ?_;simp only[hres,go_sem];first|exact oF|(refine⟨?_,oF⟩;first|rfl|done|(exfalso;omega))
  intro c0;refine A2 ?_;simp only[go_sem];refine hK2 _ ?_;refine oS fun _ hK5=>?_;refine oW D8 ?_;refine J2 200 (by rfl) ?_
  simp (maxSteps:=2000000)only[List.nodup_cons,List.nodup_nil,List.not_mem_nil,not_false_eq_true,hD,go_sem];repeat(with_reducible first|refine oA ?_|refine And.intro (by first|exact hcd) ?_)
  refine hK5 _ ?_;refine oS fun _ hK6=>?_;refine oW D8 ?_;refine J2 200 (by rfl) ?_
  simp (maxSteps:=2000000)only[List.nodup_cons,List.nodup_nil,List.not_mem_nil,not_false_eq_true,hR,go_sem];repeat(with_reducible refine oA ?_)
  refine hK6 _ ?_;refine oS fun _ hK7=>?_;refine oS fun _ hK8=>?_;refine oW D8 ?_;refine J2 200 (by rfl) ?_
  simp only[go_sem];refine hK8 _ ?_;refine oC rfl ?_ ?_
  ·
   intro c1;have hne:¬O8 [(pi,ts,ns,os),(pi2,ts2,ns2,os2)]=0:=by rw[←hec];first|assumption|omega
   refine oS fun _ hK9=>?_;refine oW D8 ?_;refine J2 200 (by rfl) ?_
   simp (maxSteps:=2000000)only[List.nodup_cons,List.nodup_nil,List.not_mem_nil,not_false_eq_true,go_sem];repeat(with_reducible first|refine oA ?_|refine And.intro (by first|exact hne) ?_)
   refine hK9 _ ?_;refine oS fun _ hK10=>?_;refine oW D8 ?_;refine J2 200 (by rfl) ?_
   simp only[go_sem];refine hK10 _ ?_;refine A0 ?_;simp only[hres,go_sem]
   first
    | exact oF
    | refine ⟨?_, oF⟩
      rw[hec];first|done|rfl|simp
  intro c1;have he0:ec=0:=by first|assumption|omega
  have hl0:O8 [(pi,ts,ns,os),(pi2,ts2,ns2,os2)]=0:=by rw[←hec];exact he0
  obtain⟨htw,hk,hk2⟩:=C4K hl0
  obtain⟨hW,ha1,hni,hlo,hsq⟩:=A5u hk hX
  obtain⟨hW2,ha2,hni2,hlo2,hsq2⟩:=A5u hk2 hY
  have hni:ni=pi:=hni
  have hlo:lc.length=os.length:=hlo
  have hni2:ni2=pi2:=hni2
  have hlo2:lc2.length=os2.length:=hlo2
  have hpp:pi=pi2:=htw.i
  have hoo:os.length=os2.length:=htw.o
  have hp4:0≤pi∧pi≤4:=hk.i4
  have ho4:os.length≤4:=hk.o4
  have hp4:0≤pi∧pi≤4:=hk.i4
  have hmi:(∀b∈mr,0≤b∧b≤255)∧(0≤pi∧pi≤4):=⟨hmr,hp4⟩
  refine A2 ?_;simp only[go_sem];refine hK7 _ ?_;refine oS fun _ hK11=>?_;refine oS fun _ hK12=>?_;refine oW D8 ?_;refine J2 200 (by rfl) ?_
  simp only[go_sem];refine hK12 _ ?_;refine oC rfl ?_ ?_
  ·
   intro c2;have hsm:sm=true:=by first|assumption|(clear hK1 hK2 hK3 hK5 hK6 hK7 hK8 hK11 hK12;simp_all)
   subst hsm;have hin0:J9 (pi,ts,ns,os) (B4h mr (Int.toNat pi)):=C6M hk hmr
   rw[hins] at hin0;obtain⟨hr1,hr2⟩:=C1o hR hl0 hin0
   have hyl:ym.length=os.length:=by rw[←hym];exact T1 (B8 hk.ok).1 hin0 12
   have ho4:os.length≤4:=hk.o4
   rw[hym] at hr1 hr2
   refine oS fun _ hK13=>?_;refine oW D8 ?_;refine J2 200 (by rfl) ?_
   simp only[List.nodup_cons,List.nodup_nil,List.not_mem_nil,not_false_eq_true,hins,go_sem];repeat(with_reducible first|refine oA ?_|refine And.intro (by first|exact hmi) ?_)
   refine hK13 _ ?_;refine oS fun _ hK14=>?_;refine oW D8 ?_;refine J2 200 (by rfl) ?_
   simp (maxSteps:=2000000)only[List.nodup_cons,List.nodup_nil,List.not_mem_nil,not_false_eq_true,hr1,go_sem];repeat(with_reducible refine oA ?_)
   refine hK14 _ ?_;refine oS fun _ hK15=>?_;refine oW D8 ?_;refine J2 200 (by rfl) ?_
   simp (maxSteps:=2000000)only[List.nodup_cons,List.nodup_nil,List.not_mem_nil,not_false_eq_true,hr2,go_sem];repeat(with_reducible refine oA ?_)
   refine hK15 _ ?_;refine oS fun _ hK16=>?_;refine oS fun _ hK17=>?_;refine oW D8 ?_;refine J2 200 (by rfl) ?_
   simp (maxSteps:=2000000)only[go_sem];repeat' (with_reducible first|refine oA ?_|refine oT (fun g12=>?_) (fun g12=>?_)|refine oE (fun g12=>?_) (fun g12=>?_))
   all_goals
    refine hK17 _ ?_;refine E2 rfl ?_ ?_
    ·
     intro c3;try simp only[zA,zB,zC,zD,zE,zF,zG,zH,zI] at c3
     all_goals
      all_goals(exfalso;clear hK1 hK2 hK3 hK5 hK6 hK7 hK8 hK11 hK12 hK13 hK14 hK15 hK16 hK17;simp_all;try omega)
    ·
     intro c3;try simp only[zA,zB,zC,zD,zE,zF,zG,zH,zI] at c3
     all_goals
      refine A2 ?_;simp only[go_sem];refine hK16 _ ?_;refine oS fun _ hK18=>?_;refine oS fun _ hK19=>?_;refine oW D8 ?_;refine J2 200 (by rfl) ?_
      simp only[go_sem];refine hK19 _ ?_;refine A1 ?_;refine A7 (ι:={ t:Nat // t≤ym.length }) (fun k=>⟨(zz::zz::zz::zz::zz::zz::zz::zz::zz::zz::zz::zz::.c (.ow 9012)::zz::.c (.ow 9014)::zz::.c (.sc (.int .i64 (k.1)))::zz::zz::zz::zz::zz::zz::zz::zz::zz::zz::zz::zz::zz::zz::zz::zz::zz::zz::zz::zz::zz::zz::zz::zz::zz::zz::zz::zz::zz::zz::zz::zz::zz::zz::zz::zz::zz::zz::zz::zz::zz::zz::zz::zz::zz::zz::zz::zz::zz::zz::zz::zz::zz::zz::zz::zz::zz::zz::zz::zz::zz::zz::zz::zz::zz::zz::zz::zz::zz::zz::zz::zz::zz::zz::zz::zz::zz::zz::zz::zz::zz::zz::zz::zz::zz::zz::zz::zz::zz::zz::zz::zz::zz::zz::zz::zz::zz::zz::zz::zz::zz::zz::zz::zz::zz::zz::zz::zz::zz::zz::zz::zz::zz::zz::zz::[]),[(9012,.tree 26 (.row 2 (.int .i64)) (ym) none),(9014,.tree 26 (.row 2 (.int .i64)) (ym) none)]⟩) (fun k=>ym.length - k.1) ⟨0,by simp⟩ ?_ ?_
      ·
       refine oK ?_;simp (maxSteps:=2000000)only[go_sem];all_goals(first|rfl|((repeat' refine And.intro ?_ ?_)<;>first|rfl|simp))
      rintro⟨t,ht⟩ K20 hL20
      refine oS fun _ hK21=>?_;refine oS fun _ hK22=>?_;refine oW D8 ?_;refine J2 200 (by rfl) ?_
      simp only[go_sem];refine hK22 _ ?_;refine E2 rfl ?_ ?_
      ·
       intro c4;try simp only[zA,zB,zC,zD,zE,zF,zG,zH,zI] at c4
       all_goals
        refine A2 ?_;simp only[go_sem];refine hK21 _ ?_;refine oS fun _ hK23=>?_;refine A1 ?_;refine oS fun _ hK24=>?_
        refine oR D8
          [[],[],[0,1],[0,1,2],[],[],[4,5],[4,5,6],[0,1,2,3,4,5,6,7],[0,1,2,3,4,5,6,7,8]]
          [[],[],[],[],[],[],[],[],[],[]]
          [[],[],[],[],[],[],[],[],[],[]] (by kernel_rfl) (by kernel_rfl) (A9 (acc:=[]) ?_)
        simp (maxSteps:=2000000)only[C4V,go_sem];repeat(with_reducible first|refine oD ?_|refine And.intro (by first|omega) ?_)
        refine hK24 _ ?_;refine E2 rfl ?_ ?_
        ·
         intro c5;try simp only[zA,zB,zC,zD,zE,zF,zG,zH,zI] at c5
         all_goals
          exfalso;clear hK1 hK2 hK3 hK5 hK6 hK7 hK8 hK11 hK12 hK13 hK14 hK15 hK16 hK17 hK18 hK19 hL20 hK21 hK22 hK23 hK24
          simp_all
        ·
         intro c5;try simp only[zA,zB,zC,zD,zE,zF,zG,zH,zI] at c5
         all_goals
          refine A2 ?_;simp only[go_sem];refine hK23 _ ?_;refine oW D8 ?_;refine J2 200 (by rfl) ?_
          simp only[go_sem];refine hL20 ⟨t+1,by omega⟩ _ (oK ?_) ?_
          ·
           simp (maxSteps:=2000000)only[go_sem];all_goals((repeat' refine And.intro ?_ ?_)<;>first|rfl|exact wk (by omega)|(congr 1;done))
          ·
           first|(simp only[];omega)|omega|(simp;omega)
      ·
       intro c4;try simp only[zA,zB,zC,zD,zE,zF,zG,zH,zI] at c4
       all_goals
        refine B6 ?_;simp only[go_sem];refine hK18 _ ?_;refine oS fun _ hK25=>?_;refine oW D8 ?_;refine J2 200 (by rfl) ?_
        simp only[go_sem];refine hK25 _ ?_;refine A0 ?_;simp only[hres,go_sem];first|exact oF|(refine⟨?_,oF⟩;first|rfl|done|(exfalso;omega))
  intro c2;have hsm:sm=false:=by first|assumption|(clear hK1 hK2 hK3 hK5 hK6 hK7 hK8 hK11 hK12;simp_all)
  subst hsm;refine A2 ?_;simp only[go_sem];refine hK11 _ ?_;refine oS fun _ hK26=>?_;refine oS fun _ hK27=>?_;refine oW D8 ?_;refine J2 200 (by rfl) ?_
  simp only[go_sem];refine hK27 _ ?_;refine A1 ?_;refine A7 (ι:={ i:Nat // i≤Int.toNat pi∧∀i',i' < i→∀o,o < os.length→i9 (M7 (ni,la,lb,lc,ld) (i':Int) (o:Int)) (M7 (ni2,la2,lb2,lc2,ld2) (i':Int) (o:Int))=true }) (fun k=>⟨(zz::zz::zz::zz::zz::.c (.po 180 0)::.c (.po 196 0)::zz::zz::zz::zz::zz::zz::zz::zz::zz::zz::.c (.sc (.int .i64 (k.1)))::zz::zz::zz::zz::zz::zz::zz::zz::zz::zz::zz::zz::zz::zz::zz::zz::zz::zz::zz::zz::zz::zz::zz::zz::zz::zz::zz::zz::zz::zz::zz::zz::zz::zz::zz::zz::zz::zz::zz::zz::zz::zz::zz::zz::zz::zz::zz::zz::zz::zz::zz::zz::zz::zz::zz::zz::zz::zz::zz::zz::zz::zz::zz::zz::zz::zz::zz::zz::zz::zz::zz::zz::zz::zz::zz::zz::zz::zz::zz::zz::zz::zz::zz::zz::zz::zz::zz::zz::zz::zz::zz::zz::zz::zz::zz::zz::zz::zz::zz::zz::zz::zz::zz::zz::zz::zz::zz::zz::zz::zz::zz::zz::zz::zz::[]),[(180,.box [.sc (.int .i64 (pi)),.rd [] 26 ((.row 2 (.int .i64))) (ts),.rd [] 95 ((.prod (.int .i64) (.prod (.int .i64) (.prod (.int .i64) (.row 2 (.int .i64)))))) (ns),.rd [] 2 (.int .i64) (os)]),(196,.box [.sc (.int .i64 (pi2)),.rd [] 26 ((.row 2 (.int .i64))) (ts2),.rd [] 95 ((.prod (.int .i64) (.prod (.int .i64) (.prod (.int .i64) (.row 2 (.int .i64)))))) (ns2),.rd [] 2 (.int .i64) (os2)])]⟩) (fun k=>(Int.toNat pi) - k.1) ⟨0,by simp,fun i' h=>absurd h (Nat.not_lt_zero _)⟩ ?_ ?_
  ·
   refine oK ?_;simp (maxSteps:=2000000)only[go_sem];all_goals(first|rfl|((repeat' refine And.intro ?_ ?_)<;>first|rfl|simp))
  rintro⟨i,hi,ha⟩ K28 hL28
  refine oS fun _ hK29=>?_;refine oS fun _ hK30=>?_;refine oW D8 ?_;refine J2 200 (by rfl) ?_
  simp only[go_sem];repeat(with_reducible refine oA ?_)
  refine hK30 _ ?_;refine oC rfl ?_ ?_
  ·
   intro c6;refine A2 ?_;simp only[go_sem];refine hK29 _ ?_;refine oS fun _ hK31=>?_;refine A1 ?_;refine oS fun _ hK32=>?_;refine oW D8 ?_;refine J2 200 (by rfl) ?_
   simp only[go_sem];refine hK32 _ ?_;refine A1 ?_;refine A7 (ι:={ o:Nat // o≤os.length∧∀o',o' < o→i9 (M7 (ni,la,lb,lc,ld) (i:Int) (o':Int)) (M7 (ni2,la2,lb2,lc2,ld2) (i:Int) (o':Int))=true }) (fun k'=>⟨(zz::zz::zz::zz::zz::.c (.po 180 0)::.c (.po 196 0)::zz::zz::zz::zz::zz::zz::zz::zz::zz::zz::.c (.sc (.int .i64 (i)))::.c (.sc (.int .i64 (k'.1)))::zz::zz::zz::zz::zz::zz::zz::zz::zz::zz::zz::zz::zz::zz::zz::zz::zz::zz::zz::zz::zz::zz::zz::zz::zz::zz::zz::zz::zz::zz::zz::zz::zz::zz::zz::zz::zz::zz::zz::zz::zz::zz::zz::zz::zz::zz::zz::zz::zz::zz::zz::zz::zz::zz::zz::zz::zz::zz::zz::zz::zz::zz::zz::zz::zz::zz::zz::zz::zz::zz::zz::zz::zz::zz::zz::zz::zz::zz::zz::zz::zz::zz::zz::zz::zz::zz::zz::zz::zz::zz::zz::zz::zz::zz::zz::zz::zz::zz::zz::zz::zz::zz::zz::zz::zz::zz::zz::zz::zz::zz::zz::zz::zz::[]),[(180,.box [.sc (.int .i64 (pi)),.rd [] 26 ((.row 2 (.int .i64))) (ts),.rd [] 95 ((.prod (.int .i64) (.prod (.int .i64) (.prod (.int .i64) (.row 2 (.int .i64)))))) (ns),.rd [] 2 (.int .i64) (os)]),(196,.box [.sc (.int .i64 (pi2)),.rd [] 26 ((.row 2 (.int .i64))) (ts2),.rd [] 95 ((.prod (.int .i64) (.prod (.int .i64) (.prod (.int .i64) (.row 2 (.int .i64)))))) (ns2),.rd [] 2 (.int .i64) (os2)])]⟩) (fun k'=>os.length - k'.1) ⟨0,by simp,fun o' h=>absurd h (Nat.not_lt_zero _)⟩ ?_ ?_
   ·
    refine oK ?_;simp (maxSteps:=2000000)only[go_sem];all_goals(first|rfl|((repeat' refine And.intro ?_ ?_)<;>first|rfl|simp))
   rintro⟨o,ho,hin⟩ K33 hL33
   refine oS fun _ hK34=>?_;refine oS fun _ hK35=>?_;refine oW D8 ?_;refine J2 200 (by rfl) ?_
   simp (maxSteps:=2000000)only[go_sem];repeat(with_reducible refine oA ?_)
   refine hK35 _ ?_;refine oC rfl ?_ ?_
   ·
    intro c7;have hbi:0≤(i:Int)∧(i:Int) < pi:=⟨by omega,by omega⟩
    have hbi2:0≤(i:Int)∧(i:Int) < pi2:=⟨by omega,by omega⟩
    have hbo:0≤(o:Int)∧(o:Int) < os.length:=⟨by omega,by omega⟩
    have hbo2:0≤(o:Int)∧(o:Int) < os2.length:=⟨by omega,by omega⟩
    obtain⟨ra,hra⟩:∃ra,(m9 (ni,la,lb,lc,ld) (i:Int) (o:Int) 49)=ra:=⟨_,rfl⟩
    obtain⟨rb,hrb⟩:∃rb,(m9 (ni2,la2,lb2,lc2,ld2) (i:Int) (o:Int) 49)=rb:=⟨_,rfl⟩
    have him1:=B8p hk hX hbi hbo
    have him2:=B8p hk2 hY hbi2 hbo2
    rw[hra] at him1;rw[hrb] at him2;refine A2 ?_;simp only[go_sem];refine hK34 _ ?_;refine oS fun _ hK36=>?_;refine A1 ?_;refine oS fun _ hK37=>?_;refine oW D8 ?_;refine J2 200 (by rfl) ?_
    simp (maxSteps:=2000000)only[List.nodup_cons,List.nodup_nil,List.not_mem_nil,not_false_eq_true,him1,go_sem];repeat(with_reducible refine oA ?_)
    refine hK37 _ ?_;refine oS fun _ hK38=>?_;refine oW D8 ?_;refine J2 200 (by rfl) ?_
    simp (maxSteps:=2000000)only[List.nodup_cons,List.nodup_nil,List.not_mem_nil,not_false_eq_true,him2,go_sem];repeat(with_reducible refine oA ?_)
    refine hK38 _ ?_;refine oS fun _ hK39=>?_;refine oW D8 ?_;refine J2 200 (by rfl) ?_
    simp (maxSteps:=2000000)only[go_sem];repeat' (with_reducible first|refine oA ?_|refine oT (fun g28=>?_) (fun g28=>?_)|refine oE (fun g28=>?_) (fun g28=>?_))
    all_goals
     refine hK39 _ ?_;refine E2 rfl ?_ ?_
     ·
      intro c8;try simp only[zA,zB,zC,zD,zE,zF,zG,zH,zI] at c8
      all_goals
       refine oS fun _ hK40=>?_;refine oW D8 ?_;refine J2 200 (by rfl) ?_
       simp only[go_sem];refine hK40 _ ?_;refine A0 ?_;simp only[hres,go_sem];first|exact oF|(refine⟨?_,oF⟩;first|rfl|done|(exfalso;omega))
     ·
      intro c8;try simp only[zA,zB,zC,zD,zE,zF,zG,zH,zI] at c8
      all_goals
       have hqd:eqD ra rb=true:=by first|assumption|(clear hK1 hK2 hK3 hK5 hK6 hK7 hK8 hK11 hK12 hK26 hK27 hL28 hK29 hK30 hK31 hK32 hL33 hK34 hK35 hK36 hK37 hK38 hK39;simp_all)
       have het:i9 (M7 (ni,la,lb,lc,ld) (i:Int) (o:Int)) (M7 (ni2,la2,lb2,lc2,ld2) (i:Int) (o:Int))=true:=C5g hk hk2 hX hY hbi hbi2 hbo hbo2 (by rw[hra,hrb];exact C6Z hqd)
       refine A2 ?_;simp only[go_sem];refine hK36 _ ?_;refine oW D8 ?_;refine J2 200 (by rfl) ?_
       simp only[go_sem]
       refine hL33 ⟨o+1,by omega,fun o' h=>by
         rcases Nat.lt_succ_iff_lt_or_eq.1 h with h|h
         · exact hin o' h
         · subst h;exact het⟩ _ (oK ?_) ?_
       ·
        simp (maxSteps:=2000000)only[go_sem];all_goals((repeat' refine And.intro ?_ ?_)<;>first|rfl|exact wk (by omega)|(congr 1;done))
       ·
        first|(simp only[];omega)|omega|(simp;omega)
   intro c7;refine B6 ?_;simp only[go_sem];refine hK31 _ ?_;refine oW D8 ?_;refine J2 200 (by rfl) ?_
   simp only[go_sem]
   refine hL28 ⟨i+1,by omega,fun j h o' ho'=>by
     rcases Nat.lt_succ_iff_lt_or_eq.1 h with h|h
     · exact ha j h o' ho'
     · subst h;exact hin o' (by omega)⟩ _ (oK ?_) ?_
   ·
    simp (maxSteps:=2000000)only[go_sem];all_goals((repeat' refine And.intro ?_ ?_)<;>first|rfl|exact wk (by omega)|(congr 1;done))
   ·
    first|(simp only[];omega)|omega|(simp;omega)
  intro c6;exfalso;have hq:=B5w hl0 hX hY (fun j h=>ha j (by have h:j < (Int.toNat pi):=h;omega))
  rw[hR] at hq;exact Bool.noConfusion (congrArg Prod.fst hq)
def B6o:E4:=fun f=>if f=3 then some (.p Z9) else A8v f
attribute [go_sem] B6o Z9
end Go.Proofs.YtgaogcnfijbahaaGreat
