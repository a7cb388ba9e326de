/-
  Texts of this claim, joined (part 32). No condition beyond those of the theorems.
-/
import Derived.Test.YtenjbehedcegdaaGreatQ29
import Derived.Test.YtenjbehedcegdaaGreatQ31
import Derived.Test.YtenjbehedcegdaaGreatQ25
namespace Go.Proofs.YtenjbehedcegdaaGreat
open Go.RowKit
set_option linter.unusedSimpArgs false
set_option linter.unusedVariables false
set_option maxRecDepth 100000
set_option maxHeartbeats 16000000
def A88:G4:=fun f=>match A4B f with
 | some k=>some k
 | none=>l9 f
theorem D7:B5 Tryz.prog A88:=W6 A80 A16
attribute [go_sem] A88 T0
def A1Q:Con:=⟨[.val ((.prod (.int .i64) (.prod (.int .i64) (.prod (.int .i64) (.row 2 (.int .i64))))))],[⟨(.row 2 (.int .i64)),true⟩],fun x=>A9E x.1,fun x=>I0 x.1⟩
theorem B4M:C8 Tryz.prog 28 A1Q:=by
  refine A4 Tryz.func28 rfl ?_
  have hres:Tryz.f28.results.toList=[.tmp 2]:=rfl
  rintro⟨⟨(kd:Int),(a:Int),(bb:Int),(fr:List Int)⟩,_⟩ hc hL
  simp only[A1Q,go_sem] at hL
  simp only[A1Q,St.init,St.initG,Tryz.ntmps28,go_sem] 
  obtain⟨h1,h2,h3,h4⟩:=(show A9E (kd,a,bb,fr) from hc)
  simp only at h1 h2 h3 h4
  refine oS fun _ hK1=>?_;refine oW D7 ?_;simp only[go_sem];repeat(with_reducible first|refine oA ?_|refine And.intro (by first|exact B4.2 (by omega)|decide) ?_)
  refine hK1 _ ?_;refine oS fun _ hK2=>?_;refine oS fun _ hK3=>?_;refine oW D7 ?_;simp only[go_sem];repeat(with_reducible first|refine oA ?_|refine And.intro (by first|exact B4.2 (by omega)|decide) ?_)
  refine hK3 _ ?_;refine A3 ?_;refine oS fun _ hK4=>?_;refine oW D7 ?_;simp only[go_sem];repeat(with_reducible first|refine oA ?_|refine And.intro (by first|exact B4.2 (by omega)|decide) ?_)
  refine hK4 _ ?_;refine oC rfl ?_ ?_
  ·
   intro c0;refine oS fun _ hK5=>?_;refine oW D7 ?_;simp only[go_sem];repeat(with_reducible first|refine oA ?_|refine And.intro (by first|exact B4.2 (by omega)|decide) ?_)
   refine hK5 _ ?_;refine A0 ?_;simp only[hres,go_sem];first|exact oF|(refine⟨?_,oF⟩;first|(have e:kd=6:=(by assumption);subst e;rfl)|(exfalso;omega)|exact(C2 (by omega) (by omega) (by omega) (by omega) (by omega) (by omega) (by omega)).symm)
  intro c0;refine oS fun _ hK6=>?_;refine oW D7 ?_;simp only[go_sem];repeat(with_reducible first|refine oA ?_|refine And.intro (by first|exact B4.2 (by omega)|decide) ?_)
  refine hK6 _ ?_;refine oC rfl ?_ ?_
  ·
   intro c1;refine oS fun _ hK7=>?_;refine oW D7 ?_;simp only[go_sem];repeat(with_reducible first|refine oA ?_|refine And.intro (by first|exact B4.2 (by omega)|decide) ?_)
   refine hK7 _ ?_;refine A0 ?_;simp only[hres,go_sem];first|exact oF|(refine⟨?_,oF⟩;first|(have e:kd=17:=(by assumption);subst e;rfl)|(exfalso;omega)|exact(C2 (by omega) (by omega) (by omega) (by omega) (by omega) (by omega) (by omega)).symm)
  intro c1;refine oS fun _ hK8=>?_;refine oS fun _ hK9=>?_;refine oW D7 ?_;simp only[go_sem];repeat(with_reducible first|refine oA ?_|refine And.intro (by first|exact B4.2 (by omega)|decide) ?_)
  refine hK9 _ ?_;refine oC rfl ?_ ?_
  ·
   intro c2;refine A2 ?_;simp only[go_sem];refine hK8 _ ?_;refine oC rfl ?_ ?_
   ·
    intro c4;refine oS fun _ hK10=>?_;refine oW D7 ?_;simp only[go_sem];repeat(with_reducible first|refine oA ?_|refine And.intro (by first|exact B4.2 (by omega)|decide) ?_)
    refine hK10 _ ?_;refine A0 ?_;simp only[hres,go_sem];first|exact oF|(refine⟨?_,oF⟩;first|(have e:kd=7:=(by assumption);subst e;rfl)|(exfalso;omega)|exact(C2 (by omega) (by omega) (by omega) (by omega) (by omega) (by omega) (by omega)).symm)
   intro c4;refine oS fun _ hK11=>?_;refine oS fun _ hK12=>?_;refine oW D7 ?_;simp only[go_sem];repeat(with_reducible first|refine oA ?_|refine And.intro (by first|exact B4.2 (by omega)|decide) ?_)
   refine hK12 _ ?_;refine oC rfl ?_ ?_
   ·
    intro c5;refine A2 ?_;simp only[go_sem];refine hK11 _ ?_;refine oC rfl ?_ ?_
    ·
     intro c6;refine oS fun _ hK13=>?_;refine oW D7 ?_;simp only[List.nodup_nil,go_sem];repeat(with_reducible first|refine oA ?_|refine And.intro (by first|exact B4.2 (by omega)|decide) ?_)
     refine hK13 _ ?_;refine A0 ?_;simp only[hres,go_sem];first|exact oF|(refine⟨?_,oF⟩;first|(have e:kd=12:=(by assumption);subst e;rfl)|(exfalso;omega)|exact(C2 (by omega) (by omega) (by omega) (by omega) (by omega) (by omega) (by omega)).symm)
    intro c6;refine A2 ?_;simp only[go_sem];refine hK2 _ ?_;refine oS fun _ hK14=>?_;refine oW D7 ?_;simp only[go_sem];repeat(with_reducible first|refine oA ?_|refine And.intro (by first|exact B4.2 (by omega)|decide) ?_)
    refine hK14 _ ?_;refine A0 ?_;simp only[hres,go_sem];first|exact oF|(refine⟨?_,oF⟩;first|(have e:kd=12:=(by assumption);subst e;rfl)|(exfalso;omega)|exact(C2 (by omega) (by omega) (by omega) (by omega) (by omega) (by omega) (by omega)).symm)
   intro c5;refine oW D7 ?_;simp only[go_sem];repeat(with_reducible first|refine oA ?_|refine And.intro (by first|exact B4.2 (by omega)|decide) ?_)
   refine hK11 _ ?_;refine oC rfl ?_ ?_
   ·
    intro c6;refine oS fun _ hK15=>?_;refine oW D7 ?_;simp only[List.nodup_nil,go_sem];repeat(with_reducible first|refine oA ?_|refine And.intro (by first|exact B4.2 (by omega)|decide) ?_)
    refine hK15 _ ?_;refine A0 ?_;simp only[hres,go_sem];first|exact oF|(refine⟨?_,oF⟩;first|(have e:kd=14:=(by assumption);subst e;rfl)|(exfalso;omega)|exact(C2 (by omega) (by omega) (by omega) (by omega) (by omega) (by omega) (by omega)).symm)
   intro c6;refine A2 ?_;simp only[go_sem];refine hK2 _ ?_;refine oS fun _ hK16=>?_;refine oW D7 ?_;simp only[go_sem];repeat(with_reducible first|refine oA ?_|refine And.intro (by first|exact B4.2 (by omega)|decide) ?_)
   refine hK16 _ ?_;refine A0 ?_;simp only[hres,go_sem];first|exact oF|(refine⟨?_,oF⟩;first|(have e:kd=7:=(by assumption);subst e;rfl)|(exfalso;omega)|exact(C2 (by omega) (by omega) (by omega) (by omega) (by omega) (by omega) (by omega)).symm)
  intro c2;refine oS fun _ hK17=>?_;refine oW D7 ?_;simp only[go_sem];repeat(with_reducible first|refine oA ?_|refine And.intro (by first|exact B4.2 (by omega)|decide) ?_)
  refine hK17 _ ?_;refine oC rfl ?_ ?_
  ·
   intro c3;refine A2 ?_;simp only[go_sem];refine hK8 _ ?_;refine oC rfl ?_ ?_
   ·
    intro c4;refine oS fun _ hK18=>?_;refine oW D7 ?_;simp only[go_sem];repeat(with_reducible first|refine oA ?_|refine And.intro (by first|exact B4.2 (by omega)|decide) ?_)
    refine hK18 _ ?_;refine A0 ?_;simp only[hres,go_sem];first|exact oF|(refine⟨?_,oF⟩;first|(have e:kd=8:=(by assumption);subst e;rfl)|(exfalso;omega)|exact(C2 (by omega) (by omega) (by omega) (by omega) (by omega) (by omega) (by omega)).symm)
   intro c4;refine oS fun _ hK19=>?_;refine oS fun _ hK20=>?_;refine oW D7 ?_;simp only[go_sem];repeat(with_reducible first|refine oA ?_|refine And.intro (by first|exact B4.2 (by omega)|decide) ?_)
   refine hK20 _ ?_;refine oC rfl ?_ ?_
   ·
    intro c5;refine A2 ?_;simp only[go_sem];refine hK19 _ ?_;refine oC rfl ?_ ?_
    ·
     intro c6;refine oS fun _ hK21=>?_;refine oW D7 ?_;simp only[List.nodup_nil,go_sem];repeat(with_reducible first|refine oA ?_|refine And.intro (by first|exact B4.2 (by omega)|decide) ?_)
     refine hK21 _ ?_;refine A0 ?_;simp only[hres,go_sem];first|exact oF|(refine⟨?_,oF⟩;first|(have e:kd=12:=(by assumption);subst e;rfl)|(exfalso;omega)|exact(C2 (by omega) (by omega) (by omega) (by omega) (by omega) (by omega) (by omega)).symm)
    intro c6;refine A2 ?_;simp only[go_sem];refine hK2 _ ?_;refine oS fun _ hK22=>?_;refine oW D7 ?_;simp only[go_sem];repeat(with_reducible first|refine oA ?_|refine And.intro (by first|exact B4.2 (by omega)|decide) ?_)
    refine hK22 _ ?_;refine A0 ?_;simp only[hres,go_sem];first|exact oF|(refine⟨?_,oF⟩;first|(have e:kd=12:=(by assumption);subst e;rfl)|(exfalso;omega)|exact(C2 (by omega) (by omega) (by omega) (by omega) (by omega) (by omega) (by omega)).symm)
   intro c5;refine oW D7 ?_;simp only[go_sem];repeat(with_reducible first|refine oA ?_|refine And.intro (by first|exact B4.2 (by omega)|decide) ?_)
   refine hK19 _ ?_;refine oC rfl ?_ ?_
   ·
    intro c6;refine oS fun _ hK23=>?_;refine oW D7 ?_;simp only[List.nodup_nil,go_sem];repeat(with_reducible first|refine oA ?_|refine And.intro (by first|exact B4.2 (by omega)|decide) ?_)
    refine hK23 _ ?_;refine A0 ?_;simp only[hres,go_sem];first|exact oF|(refine⟨?_,oF⟩;first|(have e:kd=14:=(by assumption);subst e;rfl)|(exfalso;omega)|exact(C2 (by omega) (by omega) (by omega) (by omega) (by omega) (by omega) (by omega)).symm)
   intro c6;refine A2 ?_;simp only[go_sem];refine hK2 _ ?_;refine oS fun _ hK24=>?_;refine oW D7 ?_;simp only[go_sem];repeat(with_reducible first|refine oA ?_|refine And.intro (by first|exact B4.2 (by omega)|decide) ?_)
   refine hK24 _ ?_;refine A0 ?_;simp only[hres,go_sem];first|exact oF|(refine⟨?_,oF⟩;first|(have e:kd=8:=(by assumption);subst e;rfl)|(exfalso;omega)|exact(C2 (by omega) (by omega) (by omega) (by omega) (by omega) (by omega) (by omega)).symm)
  intro c3;refine oW D7 ?_;simp only[go_sem];repeat(with_reducible first|refine oA ?_|refine And.intro (by first|exact B4.2 (by omega)|decide) ?_)
  refine hK8 _ ?_;refine oC rfl ?_ ?_
  ·
   intro c4;refine oS fun _ hK25=>?_;refine oW D7 ?_;simp only[go_sem];repeat(with_reducible first|refine oA ?_|refine And.intro (by first|exact B4.2 (by omega)|decide) ?_)
   refine hK25 _ ?_;refine A0 ?_;simp only[hres,go_sem];first|exact oF|(refine⟨?_,oF⟩;first|(have e:kd=16:=(by assumption);subst e;rfl)|(exfalso;omega)|exact(C2 (by omega) (by omega) (by omega) (by omega) (by omega) (by omega) (by omega)).symm)
  intro c4;refine oS fun _ hK26=>?_;refine oS fun _ hK27=>?_;refine oW D7 ?_;simp only[go_sem];repeat(with_reducible first|refine oA ?_|refine And.intro (by first|exact B4.2 (by omega)|decide) ?_)
  refine hK27 _ ?_;refine oC rfl ?_ ?_
  ·
   intro c5;refine A2 ?_;simp only[go_sem];refine hK26 _ ?_;refine oC rfl ?_ ?_
   ·
    intro c6;refine oS fun _ hK28=>?_;refine oW D7 ?_;simp only[List.nodup_nil,go_sem];repeat(with_reducible first|refine oA ?_|refine And.intro (by first|exact B4.2 (by omega)|decide) ?_)
    refine hK28 _ ?_;refine A0 ?_;simp only[hres,go_sem];first|exact oF|(refine⟨?_,oF⟩;first|(have e:kd=12:=(by assumption);subst e;rfl)|(exfalso;omega)|exact(C2 (by omega) (by omega) (by omega) (by omega) (by omega) (by omega) (by omega)).symm)
   intro c6;refine A2 ?_;simp only[go_sem];refine hK2 _ ?_;refine oS fun _ hK29=>?_;refine oW D7 ?_;simp only[go_sem];repeat(with_reducible first|refine oA ?_|refine And.intro (by first|exact B4.2 (by omega)|decide) ?_)
   refine hK29 _ ?_;refine A0 ?_;simp only[hres,go_sem];first|exact oF|(refine⟨?_,oF⟩;first|(have e:kd=12:=(by assumption);subst e;rfl)|(exfalso;omega)|exact(C2 (by omega) (by omega) (by omega) (by omega) (by omega) (by omega) (by omega)).symm)
  intro c5;refine oW D7 ?_;simp only[go_sem];repeat(with_reducible first|refine oA ?_|refine And.intro (by first|exact B4.2 (by omega)|decide) ?_)
  refine hK26 _ ?_;refine oC rfl ?_ ?_
  ·
   intro c6;refine oS fun _ hK30=>?_;refine oW D7 ?_;simp only[List.nodup_nil,go_sem];repeat(with_reducible first|refine oA ?_|refine And.intro (by first|exact B4.2 (by omega)|decide) ?_)
   refine hK30 _ ?_;refine A0 ?_;simp only[hres,go_sem];first|exact oF|(refine⟨?_,oF⟩;first|(have e:kd=14:=(by assumption);subst e;rfl)|(exfalso;omega)|exact(C2 (by omega) (by omega) (by omega) (by omega) (by omega) (by omega) (by omega)).symm)
  intro c6;refine A2 ?_;simp only[go_sem];refine hK2 _ ?_;refine oS fun _ hK31=>?_;refine oW D7 ?_;simp only[go_sem];repeat(with_reducible first|refine oA ?_|refine And.intro (by first|exact B4.2 (by omega)|decide) ?_)
  refine hK31 _ ?_;refine A0 ?_;simp only[hres,go_sem];first|exact oF|(refine⟨?_,oF⟩;first|(have e:kd=0:=(by assumption);subst e;rfl)|(exfalso;omega)|exact(C2 (by omega) (by omega) (by omega) (by omega) (by omega) (by omega) (by omega)).symm)
def A5S:G4:=fun f=>if f=28 then some (.p A1Q) else A88 f
theorem C7:B5 Tryz.prog A5S:=F8 B4M (B0 Tryz.func28 rfl (by decide)) D7
attribute [go_sem] A5S A1Q
def A0H:Con:=⟨[.val ((.prod (.int .i64) (.prod (.int .i64) (.prod (.row 26 (.row 2 (.int .i64))) (.prod (.row 64 (.prod (.int .i64) (.prod (.int .i64) (.prod (.int .i64) (.prod (.int .i64) (.prod (.row 2 (.int .i64)) (.int .i64))))))) (.row 2 (.int .i64))))))),.val ((.row 26 (.row 2 (.int .i64)))),.val (.int .i64)],[⟨(.row 26 (.row 2 (.int .i64))),true⟩,⟨.int .i64,true⟩],fun _=>True,fun x=>A70 x.1 x.2.1 x.2.2.1⟩
theorem B22:C8 Tryz.prog 9 A0H:=by
  refine A4 Tryz.func9 rfl ?_
  have hres:Tryz.f9.results.toList=[.tmp 6,.tmp 7]:=rfl
  rintro⟨⟨(gi:Int),(gr:Int),(ts:List (List Int)),(xs:List A1),(os:List Int)⟩,(ins:List (List Int)),(nn:Int),_⟩ hc hL
  simp only[A0H,go_sem] at hL
  simp only[A0H,St.init,St.initG,Tryz.ntmps9,go_sem] 
  have hx0:x0=((0,0,0,0,[],0):A1):=rfl
  refine oS fun _ hK1=>?_;refine oW C7 ?_;simp only[go_sem];refine hK1 _ ?_;refine oS fun _ hK2=>?_;refine oS fun _ hK3=>?_;refine oW C7 ?_;simp only[go_sem];repeat(with_reducible refine oA ?_)
  refine hK3 _ ?_;refine oC rfl ?_ ?_
  ·
   intro c0;refine oS fun _ hK4=>?_;refine oW C7 ?_;simp only[go_sem];refine hK4 _ ?_;refine A0 ?_;simp only[hres,go_sem];first|exact oF|(refine⟨?_,oF⟩;rw[B8e (by assumption)])
  intro c0;have hP:O0 (gi,gr,ts,xs,os)=true:=by assumption
  have hG:=A0R hP
  have hxl:xs.length≤48:=hG.cl
  have hol4:os.length≤4:=hG.ol
  have hr0:0≤gr:=hG.r0
  have hr24:gr≤24:=hG.r24
  have hgi:gi≤4:=hG.i4
  have hgi0:0≤gi:=hG.i0
  have hzr:I6 gr 0 1099511627776=true:=L8 (by omega) (by omega)
  have hzc:I6 gi 0 1099511627776=true:=L8 (by omega) (by omega)
  refine A2 ?_;simp only[go_sem];refine hK2 _ ?_;refine oS fun _ hK5=>?_;refine oS fun _ hK6=>?_
  refine oR C7
    [[],[0],[],[2],[0,1,2,3],[0,1,2,3,4],[0,1,2,3,4,5],[0,1,2,3,4,5,6],[0,1,2,3,4,5,6,7],[0,1,2,3,4,5,6,7,8],[0,1,2,3,4,5,6,7,8,9],[0,1,2,3,4,5,6,7,8,9,10],[0,1,2,3,4,5,6,7,8,9,10,11],[0,1,2,3,4,5,6,7,8,9,10,11,12],[0,1,2,3,4,5,6,7,8,9,10,11,12,13]]
    [[],[],[],[],[],[],[],[],[],[],[],[],[],[],[]]
    [[],[],[],[],[],[],[],[],[],[],[],[],[],[],[]] (by kernel_rfl) (by kernel_rfl) (A7 (acc:=[]) ?_)
  simp (maxSteps:=2000000)only[go_sem];repeat' (with_reducible first|refine oD ?_|refine oT (fun g3=>?_) (fun g3=>?_)|refine oE (fun g3=>?_) (fun g3=>?_))
  all_goals
   refine hK6 _ ?_;refine D5 rfl ?_ ?_
   ·
    intro c1;try simp only[zA,zB,zC,zD,zE,zF,zG,zH,zI] at c1
    all_goals
     have hsig:(decide ((ins.length:Int)=gi) && ins.all d9 && I6 nn 0 4000)=false:=by
       cases hh:(decide ((ins.length:Int)=gi) && ins.all d9 && I6 nn 0 4000) with
       | false=>rfl
       | true =>
         exfalso;simp only[Bool.and_eq_true,decide_eq_true_eq] at hh
         obtain⟨⟨hh1,hh2⟩,hh3⟩:=hh
         clear hK1 hK2 hK3 hK5 hK6;first|omega|contradiction|(simp_all;done)
     refine oS fun _ hK7=>?_;refine oW C7 ?_;simp only[go_sem];refine hK7 _ ?_;refine A0 ?_;simp only[hres,go_sem];first|exact oF|(refine⟨?_,oF⟩;rw[B9C hP hsig])
   ·
    intro c1;try simp only[zA,zB,zC,zD,zE,zF,zG,zH,zI] at c1
    all_goals
     have hsig:(decide ((ins.length:Int)=gi) && ins.all d9 && I6 nn 0 4000)=true:=by
       simp only[Bool.and_eq_true,decide_eq_true_eq];clear hK1 hK2 hK3 hK5 hK6
       (refine⟨⟨?_,?_⟩,?_⟩)<;>first|assumption|omega|(simp_all;done)
     have hC:RunC (gi,gr,ts,xs,os) ins nn:=RunC.of hP hsig
     obtain⟨hn1,hn2⟩:=hC.nr;have hil:(ins.length:Int)=gi:=hC.ln
     refine A2 ?_;simp only[go_sem];refine hK5 _ ?_;refine oS fun _ hK8=>?_
     refine oR C7
       [[],[],[1],[1,2],[],[0,1,2,3,4],[0,1,2,3,4,5],[0,1,2,3,4,5,6]]
       [[708,709,710,711,712,713,714,715,716,717,718,719,720,721,722,723,724],[724],[724],[724],[708,709,710,711,712,713,714,715,716,717,718,719,720,721,722,723],[],[],[]]
       [[],[],[],[708,709,710,711,712,713,714,715,716,717,718,719,720,721,722,723],[724],[],[],[]] (by kernel_rfl) (by kernel_rfl) (A7 (acc:=[]) ?_)
     simp (maxSteps:=2000000)only[List.nodup_cons,List.nodup_nil,List.not_mem_nil,not_false_eq_true,go_sem];repeat(with_reducible first|refine oD ?_|refine And.intro (by first|exact hzr) ?_)
     refine hK8 _ ?_;refine oS fun _ hK9=>?_;refine oS fun _ hK10=>?_;refine oW C7 ?_;simp only[go_sem];repeat(with_reducible refine oA ?_)
     refine hK10 _ ?_;refine A3 ?_;refine A8 (ι:={ k:Nat // k≤xs.length }) (fun k=>⟨[zz,.c (.rd [] 26 (.row 2 (.int .i64)) (ins)),.c (.sc (.int .i64 (nn))),.c (.po 148 0),zz,zz,zz,zz,.c (.po 756 0),zz,zz,zz,zz,zz,zz,zz,zz,zz,zz,zz,zz,zz,zz,zz,zz,zz,zz,zz,zz,zz,zz,zz,zz,zz,zz,zz,zz,zz,zz,zz,zz,zz,zz,.c (.rd [] 64 ((.prod (.int .i64) (.prod (.int .i64) (.prod (.int .i64) (.prod (.int .i64) (.prod (.row 2 (.int .i64)) (.int .i64))))))) (xs)),.c (.sc (.int .i64 (xs.length))),.c (.sc (.int .i64 (k.1))),zz,zz,zz,zz,zz,zz,zz,zz,zz,zz,zz,zz,zz,zz,zz,zz,zz,zz,zz,zz,zz,zz,zz,zz,zz,zz,zz,zz,zz,zz,zz,zz,zz,zz,zz,zz,zz,zz,zz,zz,zz,zz,zz,zz,zz,zz,zz,zz,zz,zz,zz,zz,zz,zz,zz,zz,zz,zz,zz,zz,zz,zz,zz,zz,zz,zz,zz,zz,zz,zz,zz],[(148,.box [.sc (.int .i64 (gi)),.sc (.int .i64 (gr)),.rd [] 26 ((.row 2 (.int .i64))) ts,.rd [] 64 ((.prod (.int .i64) (.prod (.int .i64) (.prod (.int .i64) (.prod (.int .i64) (.prod (.row 2 (.int .i64)) (.int .i64))))))) xs,.rd [] 2 (.int .i64) (os)]),(756,.box [.sc (.int .i64 (gi)),.sc (.int .i64 (gr)),.rd [] 26 ((.row 2 (.int .i64))) ts,.rd [] 64 ((.prod (.int .i64) (.prod (.int .i64) (.prod (.int .i64) (.prod (.int .i64) (.prod (.row 2 (.int .i64)) (.int .i64))))))) xs,.rd [] 2 (.int .i64) (os),.ow 708,.ow 724]),(708,.row 2 (.int .i64) (List.replicate (Int.toNat gr) 0) []),(724,.map ((.row 2 (.int .i64))) (j7 xs k.1) [])]⟩) (fun k=>xs.length - k.1) ⟨0,by simp⟩ ?_ ?_
     ·
      refine oK ?_;simp (maxSteps:=2000000)only[go_sem];all_goals((repeat' refine And.intro ?_ ?_)<;>first|rfl|(congr 1;done)|(simp;done))
     rintro⟨k,hk⟩ K11 hL11
     have hsl:(j7 xs k).length=24:=A3F xs k
     refine oS fun _ hK12=>?_;refine oW C7 ?_;simp only[go_sem];refine hK12 _ ?_;refine oS fun _ hK13=>?_;refine D5 rfl ?_ ?_
     ·
      intro c2;try simp only[zA,zB,zC,zD,zE,zF,zG,zH,zI] at c2
      all_goals
       have hk':k < (gi,gr,ts,xs,os).2.2.2.1.length:=by show k < xs.length;omega
       have hins:=(hG.ins k hk').1
       have hip:=G7 hins
       have hnd:0≤(xs.getD k ((0,0,0,0,[],0):A1)).2.2.2.1∧(xs.getD k ((0,0,0,0,[],0):A1)).2.2.2.1≤23:=hip.1
       have hnb:0≤(xs.getD k ((0,0,0,0,[],0):A1)).2.2.2.1∧(xs.getD k ((0,0,0,0,[],0):A1)).2.2.2.1 < ((j7 xs k).length:Int):=by omega
       refine A2 ?_;simp only[go_sem];refine hK13 _ ?_;refine oS fun _ hK14=>?_;refine A3 ?_;refine oS fun _ hK15=>?_;refine oW C7 ?_;simp only[go_sem];repeat(with_reducible refine oA ?_)
       refine hK15 _ ?_;refine oS fun _ hK16=>?_;refine oW C7 ?_;simp only[go_sem];repeat(with_reducible refine oA ?_)
       refine hK16 _ ?_;refine D5 rfl ?_ ?_
       ·
        intro c3;try simp only[zA,zB,zC,zD,zE,zF,zG,zH,zI] at c3
        all_goals
         have h18:¬(xs.getD k ((0,0,0,0,[],0):A1)).1=18:=by first|assumption|omega
         have hsc:A9E ((H2 (xs.getD k ((0,0,0,0,[],0):A1))).1,(H2 (xs.getD k ((0,0,0,0,[],0):A1))).2.1,(H2 (xs.getD k ((0,0,0,0,[],0):A1))).2.2.1,(H2 (xs.getD k ((0,0,0,0,[],0):A1))).2.2.2):=B4p hins h18
         have hsn:(j7 xs k).set (Int.toNat (xs.getD k ((0,0,0,0,[],0):A1)).2.2.2.1) (I0 ((H2 (xs.getD k ((0,0,0,0,[],0):A1))).1,(H2 (xs.getD k ((0,0,0,0,[],0):A1))).2.1,(H2 (xs.getD k ((0,0,0,0,[],0):A1))).2.2.1,(H2 (xs.getD k ((0,0,0,0,[],0):A1))).2.2.2))=j7 xs (k+1):=(B9W h18).symm
         refine oR C7
           [[],[0],[0,1],[0,1,2],[],[4],[],[6],[6,7],[0,1,2,3,4,5,6,7,8]]
           [[1044,1045,1046,1047,1048,1049,1050,1051,1052,1053,1054,1055,1056,1057,1058,1059,1060,1061,1062,1063,1064,1065,1066,1067,1068,1069,1070,1071,1072,1073,1074,1075],[1044,1045,1046,1047,1048,1049,1050,1051,1052,1053,1054,1055,1056,1057,1058,1059,1060,1061,1062,1063,1064,1065,1066,1067,1068,1069,1070,1071,1072,1073,1074,1075],[1044,1045,1046,1047,1048,1049,1050,1051,1052,1053,1054,1055,1056,1057,1058,1059,1060,1061,1062,1063,1064,1065,1066,1067,1068,1069,1070,1071,1072,1073,1074,1075],[1044,1045,1046,1047,1048,1049,1050,1051,1052,1053,1054,1055,1056,1057,1058,1059,1060,1061,1062,1063,1064,1065,1066,1067,1068,1069,1070,1071,1072,1073,1074,1075],[1044,1045,1046,1047,1048,1049,1050,1051,1052,1053,1054,1055,1056,1057,1058,1059,1060,1061,1062,1063,1064,1065,1066,1067,1068,1069,1070,1071,1072,1073,1074,1075],[1044,1045,1046,1047,1048,1049,1050,1051,1052,1053,1054,1055,1056,1057,1058,1059,1060,1061,1062,1063,1064,1065,1066,1067,1068,1069,1070,1071,1072,1073,1074,1075],[],[],[],[]]
           [[],[],[],[],[],[],[],[1044,1045,1046,1047,1048,1049,1050,1051,1052,1053,1054,1055,1056,1057,1058,1059],[1060,1061,1062,1063,1064,1065,1066,1067,1068,1069,1070,1071,1072,1073,1074,1075],[]] (by kernel_rfl) (by kernel_rfl) (A7 (acc:=[]) ?_)
         simp (maxSteps:=2000000)only[List.nodup_cons,List.nodup_nil,List.not_mem_nil,not_false_eq_true,go_sem];repeat(with_reducible first|refine oD ?_|refine And.intro (by first|exact hsc|exact hnb|omega) ?_)
         refine hK14 _ ?_;refine oW C7 ?_;simp only[go_sem];refine hL11 ⟨k+1,by omega⟩ _ (oK ?_) ?_
         ·
          simp (maxSteps:=2000000)only[go_sem];all_goals((repeat' refine And.intro ?_ ?_)<;>first|rfl|exact wk (by omega)|exact hsn|(congr 1;exact hsn)|(congr 1;done))
         ·
          first|(simp only[];omega)|omega|(simp;omega)
       ·
        intro c3;try simp only[zA,zB,zC,zD,zE,zF,zG,zH,zI] at c3
        all_goals
         have h18:(xs.getD k ((0,0,0,0,[],0):A1)).1=18:=by first|assumption|omega
         have hsn:j7 xs k=j7 xs (k+1):=(B76 h18).symm
         refine A2 ?_;simp only[go_sem];refine hK14 _ ?_;refine oW C7 ?_;simp only[go_sem];refine hL11 ⟨k+1,by omega⟩ _ (oK ?_) ?_
         ·
          simp (maxSteps:=2000000)only[go_sem];all_goals((repeat' refine And.intro ?_ ?_)<;>first|rfl|exact wk (by omega)|exact hsn|(congr 1;exact hsn)|(congr 1;done))
         ·
          first|(simp only[];omega)|omega|(simp;omega)
     ·
      intro c2;try simp only[zA,zB,zC,zD,zE,zF,zG,zH,zI] at c2
      all_goals
       have hst0:j7 xs k=(Q9 (gi,gr,ts,xs,os) ins 0).2:=by
         have hke:k=xs.length:=by omega
         rw[hke];rfl
       refine B6 ?_;simp only[go_sem];refine hK9 _ ?_;refine oS fun _ hK17=>?_;refine oW C7 ?_;simp (maxSteps:=2000000)only[List.nodup_cons,List.nodup_nil,List.not_mem_nil,not_false_eq_true,go_sem];repeat(with_reducible refine oA ?_)
       refine hK17 _ ?_;refine oS fun _ hK18=>?_;refine oW C7 ?_;simp only[List.nodup_cons,List.nodup_nil,List.not_mem_nil,not_false_eq_true,go_sem];repeat(with_reducible first|refine oA ?_|refine And.intro (by first|exact hzc) ?_)
       refine hK18 _ ?_;refine oS fun _ hK19=>?_;refine oS fun _ hK20=>?_;refine oW C7 ?_;simp only[go_sem];refine hK20 _ ?_;refine A3 ?_;refine A8 (ι:={ t:Nat // t≤nn.toNat }) (fun k=>⟨[zz,.c (.rd [] 26 (.row 2 (.int .i64)) (ins)),zz,.c (.po 148 0),zz,zz,zz,zz,.c (.po 756 0),zz,zz,.c (.ow 9003),.c (.ow 9004),zz,zz,zz,zz,zz,zz,zz,zz,zz,zz,zz,zz,zz,zz,zz,zz,zz,zz,zz,zz,zz,zz,zz,zz,zz,zz,zz,zz,zz,zz,zz,zz,zz,zz,zz,zz,zz,zz,zz,zz,zz,zz,zz,zz,zz,zz,zz,zz,zz,zz,zz,zz,zz,zz,zz,zz,.c (.sc (.int .i64 (nn))),.c (.sc (.int .i64 (k.1))),zz,zz,zz,zz,zz,zz,zz,zz,zz,zz,zz,zz,zz,zz,zz,zz,zz,zz,zz,zz,zz,zz,zz,zz,zz,zz,zz,zz,zz,zz,zz,zz,zz,zz,zz,zz,zz,zz,zz,zz,zz,zz,zz,zz,zz,zz],[(148,.box [.sc (.int .i64 (gi)),.sc (.int .i64 (gr)),.rd [] 26 ((.row 2 (.int .i64))) ts,.rd [] 64 ((.prod (.int .i64) (.prod (.int .i64) (.prod (.int .i64) (.prod (.int .i64) (.prod (.row 2 (.int .i64)) (.int .i64))))))) xs,.rd [] 2 (.int .i64) (os)]),(756,.box [.sc (.int .i64 (gi)),.sc (.int .i64 (gr)),.rd [] 26 ((.row 2 (.int .i64))) ts,.rd [] 64 ((.prod (.int .i64) (.prod (.int .i64) (.prod (.int .i64) (.prod (.int .i64) (.prod (.row 2 (.int .i64)) (.int .i64))))))) xs,.rd [] 2 (.int .i64) (os),.ow 708,.ow 724]),(708,.row 2 (.int .i64) ((Q9 (gi,gr,ts,xs,os) ins k.1).1) []),(724,.map ((.row 2 (.int .i64))) ((Q9 (gi,gr,ts,xs,os) ins k.1).2) []),(9003,.tree 26 (.row 2 (.int .i64)) ((W5 (gi,gr,ts,xs,os) ins k.1)) none),(9004,.row 2 (.int .i64) ((A2R (gi,gr,ts,xs,os) ins k.1)) [])]⟩) (fun k=>nn.toNat - k.1) ⟨0,by simp⟩ ?_ ?_
       ·
        refine oK ?_;simp (maxSteps:=2000000)only[go_sem];all_goals((repeat' refine And.intro ?_ ?_)<;>first|rfl|omega|(congr 1;rw[hst0];done)|(rw[hst0];done)|(congr 1;done)|(simp[Q9,W5,A2R];done))
       rintro⟨t,ht⟩ K21 hL21
       have hfr:=hC.frame (t:Int)
       have hlf:(A2R (gi,gr,ts,xs,os) ins t).length=ins.length:=B3i hC.ln t
       have hfal:(D3 ins (t:Int)).length=ins.length:=A1S _ _
       have hrl1:(Q9 (gi,gr,ts,xs,os) ins (t+1)).1.length=gr.toNat:=(hC.run (t+1)).rl
       have hol:(W5 (gi,gr,ts,xs,os) ins t).length=os.length:=B12 _ _ t
       have hstp:A6i (gi,gr,ts,xs,os) (D3 ins (t:Int)) ((Q9 (gi,gr,ts,xs,os) ins t).1,(Q9 (gi,gr,ts,xs,os) ins t).2)=(Q9 (gi,gr,ts,xs,os) ins (t+1)):=rfl
       refine oS fun _ hK22=>?_;refine oW C7 ?_;simp only[go_sem];refine hK22 _ ?_;refine oS fun _ hK23=>?_;refine D5 rfl ?_ ?_
       ·
        intro c4;try simp only[zA,zB,zC,zD,zE,zF,zG,zH,zI] at c4
        all_goals
         have hat:I6 (t:Int) 0 9223372036854775807=true:=L8 (by omega) (by omega)
         refine A2 ?_;simp only[go_sem];refine hK23 _ ?_;refine oS fun _ hK24=>?_;refine A3 ?_;refine oS fun _ hK25=>?_;refine oW C7 ?_;simp only[go_sem];refine hK25 _ ?_;refine oS fun _ hK26=>?_;refine oS fun _ hK27=>?_;refine oW C7 ?_;simp only[go_sem];refine hK27 _ ?_;refine A3 ?_;refine A8 (ι:={ m:Nat // m≤ins.length }) (fun k'=>⟨[zz,.c (.rd [] 26 (.row 2 (.int .i64)) (ins)),zz,.c (.po 148 0),zz,zz,zz,zz,.c (.po 756 0),zz,zz,.c (.ow 9003),.c (.ow 9004),.c (.sc (.int .i64 (t))),zz,zz,zz,zz,zz,zz,zz,zz,zz,zz,zz,zz,zz,zz,zz,zz,zz,zz,zz,zz,zz,zz,zz,zz,zz,zz,zz,zz,zz,zz,zz,zz,zz,zz,zz,zz,zz,zz,zz,zz,zz,zz,zz,zz,zz,zz,zz,zz,zz,zz,zz,zz,zz,zz,zz,.c (.sc (.int .i64 (nn))),.c (.sc (.int .i64 (t))),zz,zz,zz,.c (.sc (.int .i64 (ins.length))),.c (.sc (.int .i64 (k'.1))),zz,zz,zz,zz,zz,zz,zz,zz,zz,zz,zz,zz,zz,zz,zz,zz,zz,zz,zz,zz,zz,zz,zz,zz,zz,zz,zz,zz,zz,zz,zz,zz,zz,zz,zz,zz,zz,zz,zz,zz,zz],[(148,.box [.sc (.int .i64 (gi)),.sc (.int .i64 (gr)),.rd [] 26 ((.row 2 (.int .i64))) ts,.rd [] 64 ((.prod (.int .i64) (.prod (.int .i64) (.prod (.int .i64) (.prod (.int .i64) (.prod (.row 2 (.int .i64)) (.int .i64))))))) xs,.rd [] 2 (.int .i64) (os)]),(756,.box [.sc (.int .i64 (gi)),.sc (.int .i64 (gr)),.rd [] 26 ((.row 2 (.int .i64))) ts,.rd [] 64 ((.prod (.int .i64) (.prod (.int .i64) (.prod (.int .i64) (.prod (.int .i64) (.prod (.row 2 (.int .i64)) (.int .i64))))))) xs,.rd [] 2 (.int .i64) (os),.ow 708,.ow 724]),(708,.row 2 (.int .i64) ((Q9 (gi,gr,ts,xs,os) ins t).1) []),(724,.map ((.row 2 (.int .i64))) ((Q9 (gi,gr,ts,xs,os) ins t).2) []),(9003,.tree 26 (.row 2 (.int .i64)) ((W5 (gi,gr,ts,xs,os) ins t)) none),(9004,.row 2 (.int .i64) (N7 (D3 ins (t:Int)) (A2R (gi,gr,ts,xs,os) ins t) k'.1) [])]⟩) (fun k'=>ins.length - k'.1) ⟨0,by simp⟩ ?_ ?_
         ·
          refine oK ?_;simp (maxSteps:=2000000)only[go_sem];all_goals((repeat' refine And.intro ?_ ?_)<;>first|rfl|omega|exact A0i.symm|exact congrArg _ hlf|(rw[hlf])|(congr 1;done))
         rintro⟨m,hm⟩ K28 hL28
         have hbl0:(N7 (D3 ins (t:Int)) (A2R (gi,gr,ts,xs,os) ins t) m).length=ins.length:=by rw[A2F (by omega) (by omega)];exact hfal
         have hset:m < ins.length→(N7 (D3 ins (t:Int)) (A2R (gi,gr,ts,xs,os) ins t) m).set m ((ins.getD m []).getD (Int.toNat (t:Int)) 0)=N7 (D3 ins (t:Int)) (A2R (gi,gr,ts,xs,os) ins t) (m+1):=fun h=>by rw[←A6J h];exact A2B 0 (by omega) (by omega)
         refine oS fun _ hK29=>?_;refine oW C7 ?_;simp only[go_sem];refine hK29 _ ?_;refine oS fun _ hK30=>?_;refine D5 rfl ?_ ?_
         ·
          intro c5;try simp only[zA,zB,zC,zD,zE,zF,zG,zH,zI] at c5
          all_goals
           refine A2 ?_;simp only[go_sem];refine hK30 _ ?_;refine oS fun _ hK31=>?_;refine A3 ?_;refine oS fun _ hK32=>?_;refine oW C7 ?_;simp only[go_sem];refine hK32 _ ?_;refine oW C7 ?_;simp (maxSteps:=2000000)only[go_sem];repeat(with_reducible first|refine oA ?_|refine And.intro (by first|exact hat|omega) ?_)
           refine hK31 _ ?_;refine oW C7 ?_;simp only[go_sem];refine hL28 ⟨m+1,by omega⟩ _ (oK ?_) ?_
           ·
            simp (maxSteps:=2000000)only[go_sem];all_goals((repeat' refine And.intro ?_ ?_)<;>first|rfl|exact wk (by omega)|exact hset (by omega)|(congr 1;done))
           ·
            first|(simp only[];omega)|omega|(simp;omega)
         ·
          intro c5;try simp only[zA,zB,zC,zD,zE,zF,zG,zH,zI] at c5
          all_goals
           have hbl:N7 (D3 ins (t:Int)) (A2R (gi,gr,ts,xs,os) ins t) m=(D3 ins (t:Int)):=A2G (by omega) (by omega)
           have hfc:O0 (gi,gr,ts,xs,os)=true∧I9 (D3 ins (t:Int))=true∧((D3 ins (t:Int)).length:Int)=gi∧RunOk (gi,gr,ts,xs,os) ((Q9 (gi,gr,ts,xs,os) ins t).1,(Q9 (gi,gr,ts,xs,os) ins t).2):=⟨hP,hfr.2,hfr.1,hC.run t⟩
           have hoc:os.length≤1000∧N2 ((Q9 (gi,gr,ts,xs,os) ins (t+1)).1.length:Int) os=true:=⟨by omega,by rw[hrl1,Int.toNat_of_nonneg hr0];exact B3E hG⟩
           refine B6 ?_;simp only[go_sem];refine hK26 _ ?_;refine oS fun _ hK33=>?_;refine oW C7 ?_;simp only[hbl,hstp,go_sem];repeat(with_reducible first|refine oA ?_|refine And.intro (by first|exact hfc) ?_)
           refine hK33 _ ?_;refine oS fun _ hK34=>?_
           refine oR C7
             [[],[0],[],[2],[2,3],[2,3,4],[0,1,2,3,4,5],[0,1,2,3,4,5,6],[]]
             [[],[],[],[],[],[],[],[],[1652,1653,1654,1655,1656,1657,1658,1659,1660,1661,1662,1663,1664,1665,1666,1667]]
             [[],[],[],[],[],[],[1652,1653,1654,1655,1656,1657,1658,1659,1660,1661,1662,1663,1664,1665,1666,1667],[],[]] (by kernel_rfl) (by kernel_rfl) (A7 (acc:=[]) ?_)
           simp (maxSteps:=2000000)only[List.nodup_cons,List.nodup_nil,List.not_mem_nil,not_false_eq_true,go_sem];repeat(with_reducible first|refine oD ?_|refine And.intro (by first|exact hoc) ?_)
           refine hK34 _ ?_;refine A3 ?_;refine A8 (ι:={ m:Nat // m≤os.length }) (fun k'=>⟨[zz,.c (.rd [] 26 (.row 2 (.int .i64)) (ins)),zz,.c (.po 148 0),zz,zz,zz,zz,.c (.po 756 0),zz,zz,.c (.ow 9003),.c (.ow 9004),zz,zz,zz,zz,zz,zz,zz,zz,zz,zz,zz,zz,zz,zz,zz,zz,zz,zz,zz,zz,zz,zz,zz,zz,zz,zz,zz,zz,zz,zz,zz,zz,zz,zz,zz,zz,zz,zz,zz,zz,zz,zz,zz,zz,zz,zz,zz,zz,zz,zz,zz,zz,zz,zz,zz,zz,.c (.sc (.int .i64 (nn))),.c (.sc (.int .i64 (t))),zz,zz,zz,zz,zz,zz,zz,zz,zz,zz,zz,zz,zz,zz,zz,zz,zz,zz,zz,zz,zz,zz,zz,zz,zz,zz,.c (.ow 9005),.c (.sc (.int .i64 (os.length))),.c (.sc (.int .i64 (k'.1))),zz,zz,zz,zz,zz,zz,zz,zz,zz,zz,zz,zz,zz,zz,zz,zz,zz],[(148,.box [.sc (.int .i64 (gi)),.sc (.int .i64 (gr)),.rd [] 26 ((.row 2 (.int .i64))) ts,.rd [] 64 ((.prod (.int .i64) (.prod (.int .i64) (.prod (.int .i64) (.prod (.int .i64) (.prod (.row 2 (.int .i64)) (.int .i64))))))) xs,.rd [] 2 (.int .i64) (os)]),(756,.box [.sc (.int .i64 (gi)),.sc (.int .i64 (gr)),.rd [] 26 ((.row 2 (.int .i64))) ts,.rd [] 64 ((.prod (.int .i64) (.prod (.int .i64) (.prod (.int .i64) (.prod (.int .i64) (.prod (.row 2 (.int .i64)) (.int .i64))))))) xs,.rd [] 2 (.int .i64) (os),.ow 708,.ow 724]),(708,.row 2 (.int .i64) ((Q9 (gi,gr,ts,xs,os) ins (t+1)).1) []),(724,.map ((.row 2 (.int .i64))) ((Q9 (gi,gr,ts,xs,os) ins (t+1)).2) []),(9003,.tree 26 (.row 2 (.int .i64)) (N7 (P8 (W5 (gi,gr,ts,xs,os) ins t) (A33 (gi,gr,ts,xs,os) (Q9 (gi,gr,ts,xs,os) ins (t+1)).1)) (W5 (gi,gr,ts,xs,os) ins t) k'.1) none),(9004,.row 2 (.int .i64) ((D3 ins (t:Int))) []),(9005,.row 2 (.int .i64) ((A33 (gi,gr,ts,xs,os) (Q9 (gi,gr,ts,xs,os) ins (t+1)).1)) [])]⟩) (fun k'=>os.length - k'.1) ⟨0,by simp⟩ ?_ ?_
           ·
            refine oK ?_;simp (maxSteps:=2000000)only[go_sem];all_goals((repeat' refine And.intro ?_ ?_)<;>first|rfl|omega|(congr 1;exact A0i.symm)|exact congrArg _ (A0I _ _)|exact List.length_map _|(rw[List.length_map];done)|(simp;done)|with_unfolding_all exact A0I (gi,gr,ts,xs,os) _|(congr 1;done))
           rintro⟨m,hm⟩ K35 hL35
           have hxl2:(A33 (gi,gr,ts,xs,os) (Q9 (gi,gr,ts,xs,os) ins (t+1)).1).length=os.length:=A0I _ _
           have hal:(P8 (W5 (gi,gr,ts,xs,os) ins t) (A33 (gi,gr,ts,xs,os) (Q9 (gi,gr,ts,xs,os) ins (t+1)).1)).length=(W5 (gi,gr,ts,xs,os) ins t).length:=by rw[Y8 (by omega)];omega
           have hbl1:(N7 (P8 (W5 (gi,gr,ts,xs,os) ins t) (A33 (gi,gr,ts,xs,os) (Q9 (gi,gr,ts,xs,os) ins (t+1)).1)) (W5 (gi,gr,ts,xs,os) ins t) m).length=os.length:=by rw[A2F (by omega) (by omega)];omega
           have hbat0:m < os.length→(N7 (P8 (W5 (gi,gr,ts,xs,os) ins t) (A33 (gi,gr,ts,xs,os) (Q9 (gi,gr,ts,xs,os) ins (t+1)).1)) (W5 (gi,gr,ts,xs,os) ins t) m).getD m []=(W5 (gi,gr,ts,xs,os) ins t).getD m []:=fun h=>B0G [] (by omega) (by omega)
           have holn:m < os.length→((W5 (gi,gr,ts,xs,os) ins t).getD m []).length=t:=fun h=>B50 _ _ h t
           have hset:m < os.length→(N7 (P8 (W5 (gi,gr,ts,xs,os) ins t) (A33 (gi,gr,ts,xs,os) (Q9 (gi,gr,ts,xs,os) ins (t+1)).1)) (W5 (gi,gr,ts,xs,os) ins t) m).set m ((W5 (gi,gr,ts,xs,os) ins t).getD m []++[(A33 (gi,gr,ts,xs,os) (Q9 (gi,gr,ts,xs,os) ins (t+1)).1).getD m 0])=N7 (P8 (W5 (gi,gr,ts,xs,os) ins t) (A33 (gi,gr,ts,xs,os) (Q9 (gi,gr,ts,xs,os) ins (t+1)).1)) (W5 (gi,gr,ts,xs,os) ins t) (m+1):=fun h=>by rw[←A28 (by omega) (by omega)];exact A2B [] (by omega) (by omega)
           refine oS fun _ hK36=>?_;refine oW C7 ?_;simp only[go_sem];refine hK36 _ ?_;refine oS fun _ hK37=>?_;refine D5 rfl ?_ ?_
           ·
            intro c6;try simp only[zA,zB,zC,zD,zE,zF,zG,zH,zI] at c6
            all_goals
             have hbat:=hbat0 (by omega)
             have hln:=holn (by omega)
             refine A2 ?_;simp only[go_sem];refine hK37 _ ?_;refine oS fun _ hK38=>?_;refine A3 ?_;refine oS fun _ hK39=>?_;refine oW C7 ?_;simp (maxSteps:=2000000)only[go_sem];repeat(with_reducible refine oA ?_)
             refine hK39 _ ?_;refine oW C7 ?_;simp (maxSteps:=2000000)only[List.nodup_cons,List.nodup_nil,List.not_mem_nil,not_false_eq_true,hbat,go_sem];repeat(with_reducible first|refine oA ?_|refine And.intro (by first|omega) ?_)
             refine hK38 _ ?_;refine oW C7 ?_;simp only[go_sem];refine hL35 ⟨m+1,by omega⟩ _ (oK ?_) ?_
             ·
              simp (maxSteps:=2000000)only[go_sem];all_goals((repeat' refine And.intro ?_ ?_)<;>first|rfl|exact wk (by omega)|(congr 1;exact hset (by omega))|(congr 1;done))
             ·
              first|(simp only[];omega)|omega|(simp;omega)
           ·
            intro c6;try simp only[zA,zB,zC,zD,zE,zF,zG,zH,zI] at c6
            all_goals
             refine B6 ?_;simp only[go_sem];refine hK24 _ ?_;refine oW C7 ?_;simp only[go_sem];refine hL21 ⟨t+1,by omega⟩ _ (oK ?_) ?_
             ·
              simp (maxSteps:=2000000)only[go_sem];all_goals((repeat' refine And.intro ?_ ?_)<;>first|rfl|(rw[H4 (by omega)];omega)|(congr 1;exact A2G (by rw[Y8 (by omega)];omega) (by rw[Y8 (by omega)];omega))|(congr 1;done))
             ·
              first|(simp only[];omega)|omega|(simp;omega)
       ·
        intro c4;try simp only[zA,zB,zC,zD,zE,zF,zG,zH,zI] at c4
        all_goals
         refine B6 ?_;simp only[go_sem];refine hK19 _ ?_;refine oS fun _ hK40=>?_;refine oW C7 ?_;simp only[go_sem];refine hK40 _ ?_;refine A0 ?_;simp only[hres,go_sem]
         first
          | exact oF
          | refine ⟨?_, oF⟩
            rw[B9O hP hsig];have htn:t=nn.toNat:=by omega
            clear hK1 hK2 hK3 hK5 hK6 hK8 hK9 hK10 hL11 hK12 hK13 hK17 hK18 hK19 hK20 hL21 hK22 hK23 hK40;subst htn;first|rfl|exact⟨rfl,rfl⟩
def A4N:G4:=fun f=>if f=9 then some (.p A0H) else A5S f
theorem A8n:B5 Tryz.prog A4N:=F8 B22 (B0 Tryz.func9 rfl (by decide)) C7
attribute [go_sem] A4N A0H
end Go.Proofs.YtenjbehedcegdaaGreat
