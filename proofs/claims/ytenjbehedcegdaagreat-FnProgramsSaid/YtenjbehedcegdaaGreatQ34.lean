/-
  Texts of this claim, joined (part 34). No condition beyond those of the theorems.
-/
import Derived.Test.YtenjbehedcegdaaGreatQ13
import Derived.Test.YtenjbehedcegdaaGreatQ32
import Derived.Test.YtenjbehedcegdaaGreatQ33
namespace Go.Proofs.YtenjbehedcegdaaGreat
open Go.RowKit
set_option linter.unusedSimpArgs false
set_option linter.unusedVariables false
set_option maxRecDepth 100000
set_option maxHeartbeats 16000000
def A8W:G4:=fun f=>match A1V f with
 | some k=>some k
 | none=>A4N f
theorem C3:B5 Tryz.prog A8W:=W6 A5X A8n
attribute [go_sem] A8W T0
def t6:Con:=⟨[.val ((.prod (.int .i64) (.prod (.int .i64) (.prod (.row 26 (.row 2 (.int .i64))) (.prod (.row 64 (.prod (.int .i64) (.prod (.int .i64) (.prod (.int .i64) (.prod (.int .i64) (.prod (.row 2 (.int .i64)) (.int .i64))))))) (.row 2 (.int .i64))))))),.val (.int .i64)],[⟨(.row 2 (.int .i64)),true⟩,⟨.int .i64,true⟩],fun _=>True,fun x=>A2P x.1 x.2.1⟩
theorem B0Z:C8 Tryz.prog 12 t6:=by
  refine A4 Tryz.func12 rfl ?_
  have hres:Tryz.f12.results.toList=[.tmp 4,.tmp 5]:=rfl
  rintro⟨⟨(gi:Int),(gr:Int),(ts:List (List Int)),(xs:List A1),(os:List Int)⟩,(kk:Int),_⟩ hc hL
  simp only[t6,go_sem] at hL
  simp only[t6,St.init,St.initG,Tryz.ntmps12,go_sem] 
  have hx0:x0=((0,0,0,0,[],0):A1):=rfl
  refine oS fun _ hK1=>?_;refine oW C3 ?_;simp only[go_sem];refine hK1 _ ?_;refine oS fun _ hK2=>?_;refine oS fun _ hK3=>?_;refine oW C3 ?_;simp only[go_sem];repeat(with_reducible refine oA ?_)
  refine hK3 _ ?_;refine oC rfl ?_ ?_
  ·
   intro c0;refine oS fun _ hK4=>?_;refine oW C3 ?_;simp only[go_sem];refine hK4 _ ?_;refine A0 ?_;simp only[hres,go_sem];first|exact oF|(refine⟨?_,oF⟩;rw[B7V (by assumption)])
  intro c0;have hP:O0 (gi,gr,ts,xs,os)=true:=by assumption
  have hG:=A0R hP
  have hxl:xs.length≤48:=hG.cl
  have hr0:0≤gr:=hG.r0
  have hr24:gr≤24:=hG.r24
  have hrn:(gr.toNat:Int)=gr:=Int.toNat_of_nonneg hr0
  have hwn:IntKind.i64.wrap ((xs.length:Int) - 1)=xs.length - 1:=H4 (by omega)
  have hos:=B3E hG
  refine A2 ?_;simp only[go_sem];refine hK2 _ ?_;refine oS fun _ hK5=>?_;refine oS fun _ hK6=>?_;refine oW C3 ?_;simp (maxSteps:=2000000)only[hwn,go_sem];repeat(with_reducible refine oA ?_)
  refine hK6 _ ?_;refine oC rfl ?_ ?_
  ·
   intro c1;have hin:I6 kk 0 ((xs.length:Int) - 1)=false:=by assumption
   refine oS fun _ hK7=>?_;refine oW C3 ?_;simp only[go_sem];refine hK7 _ ?_;refine A0 ?_;simp only[hres,go_sem];first|exact oF|(refine⟨?_,oF⟩;rw[B8K hP hin])
  intro c1;have hin:I6 kk 0 ((xs.length:Int) - 1)=true:=by assumption
  obtain⟨hk1,hk2⟩:=B4.1 hin
  refine A2 ?_;simp only[go_sem];refine hK5 _ ?_;refine oS fun _ hK8=>?_;refine oW C3 ?_;simp only[List.nodup_cons,List.nodup_nil,List.not_mem_nil,not_false_eq_true,hrn,go_sem];repeat(with_reducible refine oA ?_)
  refine hK8 _ ?_;refine oS fun _ hK9=>?_;refine oS fun _ hK10=>?_;refine oW C3 ?_;simp only[go_sem];repeat(with_reducible refine oA ?_)
  refine hK10 _ ?_;refine A3 ?_;refine A8 (ι:={ m:Nat // m≤os.length }) (fun k=>⟨[zz,.c (.sc (.int .i64 (kk))),.c (.po 132 0),zz,zz,zz,.c (.ow 9001),zz,zz,zz,zz,zz,zz,zz,zz,zz,zz,zz,zz,zz,zz,zz,zz,zz,zz,zz,zz,zz,zz,zz,.c (.rd [] 2 (.int .i64) (os)),.c (.sc (.int .i64 (os.length))),.c (.sc (.int .i64 (k.1))),zz,zz,zz,zz,zz,zz,zz,zz,zz,zz,zz,zz,zz,zz,zz,zz,zz,zz,zz,zz,zz,zz,zz,zz,zz,zz,zz,zz,zz,zz,zz,zz,zz,zz,zz,zz,zz,zz,zz,zz,zz,zz,zz,zz,zz,zz,zz,zz,zz,zz,zz,zz,zz,zz],[(132,.box [.sc (.int .i64 (gi)),.sc (.int .i64 (gr)),.rd [] 26 ((.row 2 (.int .i64))) ts,.rd [] 64 ((.prod (.int .i64) (.prod (.int .i64) (.prod (.int .i64) (.prod (.int .i64) (.prod (.row 2 (.int .i64)) (.int .i64))))))) xs,.rd [] 2 (.int .i64) (os)]),(9001,.row 4 (.bool) (A0X (List.replicate (Int.toNat gr) false) os k.1) [])]⟩) (fun k=>os.length - k.1) ⟨0,by simp⟩ ?_ ?_
  ·
   refine oK ?_;simp (maxSteps:=2000000)only[go_sem];all_goals((repeat' refine And.intro ?_ ?_)<;>first|rfl|omega|(rw[A3z];done)|(congr 1;rw[A3z];done)|(congr 1;omega)|(congr 1;done)|(simp;done))
  rintro⟨m,hm⟩ K11 hL11
  have hl0:(A0X (List.replicate (Int.toNat gr) false) os m).length=gr.toNat:=by rw[A1E,List.length_replicate]
  have hnx:m < os.length→A0X (List.replicate (Int.toNat gr) false) os (m+1)=_:=fun h=>A4U h
  refine oS fun _ hK12=>?_;refine oW C3 ?_;simp only[go_sem];refine hK12 _ ?_;refine oS fun _ hK13=>?_;refine oC rfl ?_ ?_
  ·
   intro c2;have hoi:=O1 hos (C6 (d:=0) (i:=m) (by show m < os.length;omega))
   have hob:0≤os.getD m 0∧os.getD m 0 < (gr.toNat:Int):=by
     have h1:0≤os.getD m 0∧os.getD m 0≤gr - 1:=hoi
     omega
   refine A2 ?_;simp only[go_sem];refine hK13 _ ?_;refine oS fun _ hK14=>?_;refine A3 ?_;refine oS fun _ hK15=>?_;refine oW C3 ?_;simp only[go_sem];repeat(with_reducible refine oA ?_)
   refine hK15 _ ?_;refine oW C3 ?_;simp only[hl0,go_sem];repeat(with_reducible first|refine oA ?_|refine And.intro (by first|exact hob|omega) ?_)
   refine hK14 _ ?_;refine oW C3 ?_;simp only[go_sem];refine hL11 ⟨m+1,by omega⟩ _ (oK ?_) ?_
   ·
    simp (maxSteps:=2000000)only[go_sem];all_goals(try rw[hnx (by omega)])
    all_goals((repeat' refine And.intro ?_ ?_)<;>first|rfl|exact wk (by omega)|(congr 1;done))
   ·
    first|(simp only[];omega)|omega|(simp;omega)
  intro c2
  have hl9:A0X (List.replicate (Int.toNat gr) false) os m=X7 (gi,gr,ts,xs,os) 0:=by
    have hme:m=os.length:=by omega
    rw[hme];rfl
  refine B6 ?_;simp only[go_sem];refine hK9 _ ?_;refine oS fun _ hK16=>?_;refine oS fun _ hK17=>?_;refine oW C3 ?_;simp (maxSteps:=2000000)only[hwn,go_sem];repeat(with_reducible refine oA ?_)
  refine hK17 _ ?_;refine A3 ?_;refine A8 (ι:={ j:Nat // j≤xs.length - 1 - kk.toNat }) (fun k=>⟨[zz,.c (.sc (.int .i64 (kk))),.c (.po 132 0),zz,zz,zz,.c (.ow 9001),zz,zz,.c (.sc (.int .i64 (((xs.length:Int) - 1 - (k.1:Int))))),zz,zz,zz,zz,zz,zz,zz,zz,zz,zz,zz,zz,zz,zz,zz,zz,zz,zz,zz,zz,zz,zz,zz,zz,zz,zz,zz,zz,zz,zz,zz,zz,zz,zz,zz,zz,zz,zz,zz,zz,zz,zz,zz,zz,zz,zz,zz,zz,zz,zz,zz,zz,zz,zz,zz,zz,zz,zz,zz,zz,zz,zz,zz,zz,zz,zz,zz,zz,zz,zz,zz,zz,zz,zz,zz,zz,zz],[(132,.box [.sc (.int .i64 (gi)),.sc (.int .i64 (gr)),.rd [] 26 ((.row 2 (.int .i64))) ts,.rd [] 64 ((.prod (.int .i64) (.prod (.int .i64) (.prod (.int .i64) (.prod (.int .i64) (.prod (.row 2 (.int .i64)) (.int .i64))))))) xs,.rd [] 2 (.int .i64) (os)]),(9001,.row 4 (.bool) (X7 (gi,gr,ts,xs,os) k.1) [])]⟩) (fun k=>xs.length - 1 - kk.toNat - k.1) ⟨0,by omega⟩ ?_ ?_
  ·
   refine oK ?_;simp (maxSteps:=2000000)only[go_sem];all_goals((repeat' refine And.intro ?_ ?_)<;>first|rfl|omega|exact hl9|(congr 1;done)|(congr 1;omega)|(simp;done))
  rintro⟨j,hj⟩ K18 hL18
  have hlj:(X7 (gi,gr,ts,xs,os) j).length=gr.toNat:=B5M _ j
  have hxi:Int.toNat ((xs.length:Int) - 1 - (j:Int))=xs.length - 1 - j:=by omega
  refine oS fun _ hK19=>?_;refine oS fun _ hK20=>?_;refine oW C3 ?_;simp only[go_sem];refine hK20 _ ?_;refine oC rfl ?_ ?_
  ·
   intro c3;have hk':xs.length - 1 - j < (gi,gr,ts,xs,os).2.2.2.1.length:=by show xs.length - 1 - j < xs.length;omega
   have hip:=G7 (hG.ins _ hk').1
   have hfj:(xs.getD (xs.length - 1 - j) ((0,0,0,0,[],0):A1)).2.2.2.2.1.length≤1000:=Nat.le_trans (A9r (hG.ins _ hk').1) (by decide)
   refine A2 ?_;simp only[go_sem];refine hK19 _ ?_;refine oS fun _ hK21=>?_;refine A3 ?_;refine oS fun _ hK22=>?_;refine oW C3 ?_;simp (maxSteps:=2000000)only[hxi,go_sem];repeat(with_reducible first|refine oA ?_|refine And.intro (by first|exact⟨by omega,by omega⟩|omega) ?_)
   refine hK22 _ ?_;refine oS fun _ hK23=>?_;refine oS fun _ hK24=>?_;refine oW C3 ?_;simp only[go_sem];repeat(with_reducible refine oA ?_)
   refine hK24 _ ?_;refine oC rfl ?_ ?_
   ·
    intro c4;have h18:¬(xs.getD (xs.length - 1 - j) ((0,0,0,0,[],0):A1)).1=18:=by first|assumption|omega
    have htr:0≤(xs.getD (xs.length - 1 - j) ((0,0,0,0,[],0):A1)).2.2.2.2.2∧(xs.getD (xs.length - 1 - j) ((0,0,0,0,[],0):A1)).2.2.2.2.2 < gr:=hip.2.2.2.1 h18
    have htb:0≤(xs.getD (xs.length - 1 - j) ((0,0,0,0,[],0):A1)).2.2.2.2.2∧(xs.getD (xs.length - 1 - j) ((0,0,0,0,[],0):A1)).2.2.2.2.2 < (gr.toNat:Int):=by omega
    have hcl:(A1L (xs.getD (xs.length - 1 - j) ((0,0,0,0,[],0):A1)) (X7 (gi,gr,ts,xs,os) j))=_:=B9T h18
    refine oW C3 ?_;simp (maxSteps:=2000000)only[hlj,go_sem];repeat(with_reducible first|refine oA ?_|refine And.intro (by first|exact htb|omega) ?_)
    refine hK23 _ ?_;refine oS fun _ hK25=>?_;refine oW C3 ?_;simp only[go_sem];repeat(with_reducible refine oA ?_)
    refine hK25 _ ?_;refine A3 ?_;refine A8 (ι:={ m:Nat // m≤(xs.getD (xs.length - 1 - j) ((0,0,0,0,[],0):A1)).2.2.2.2.1.length }) (fun k'=>⟨[zz,.c (.sc (.int .i64 (kk))),.c (.po 132 0),zz,zz,zz,.c (.ow 9001),zz,zz,.c (.sc (.int .i64 (((xs.length:Int) - 1 - (j:Int))))),zz,zz,zz,zz,zz,zz,zz,zz,zz,zz,zz,zz,zz,zz,zz,zz,zz,zz,zz,zz,zz,zz,zz,zz,zz,zz,zz,zz,zz,zz,zz,zz,zz,zz,zz,zz,zz,zz,zz,zz,zz,zz,zz,zz,zz,zz,zz,zz,zz,zz,zz,zz,.c (.rd [] 2 (.int .i64) ((xs.getD (xs.length - 1 - j) ((0,0,0,0,[],0):A1)).2.2.2.2.1)),.c (.sc (.int .i64 ((xs.getD (xs.length - 1 - j) ((0,0,0,0,[],0):A1)).2.2.2.2.1.length))),.c (.sc (.int .i64 (k'.1))),zz,zz,zz,zz,zz,zz,zz,zz,zz,zz,zz,zz,zz,zz,zz,zz,zz,zz,zz,zz,zz,zz],[(132,.box [.sc (.int .i64 (gi)),.sc (.int .i64 (gr)),.rd [] 26 ((.row 2 (.int .i64))) ts,.rd [] 64 ((.prod (.int .i64) (.prod (.int .i64) (.prod (.int .i64) (.prod (.int .i64) (.prod (.row 2 (.int .i64)) (.int .i64))))))) xs,.rd [] 2 (.int .i64) (os)]),(9001,.row 4 (.bool) (A0X (A1L (xs.getD (xs.length - 1 - j) ((0,0,0,0,[],0):A1)) (X7 (gi,gr,ts,xs,os) j)) (xs.getD (xs.length - 1 - j) ((0,0,0,0,[],0):A1)).2.2.2.2.1 k'.1) [])]⟩) (fun k'=>(xs.getD (xs.length - 1 - j) ((0,0,0,0,[],0):A1)).2.2.2.2.1.length - k'.1) ⟨0,by simp⟩ ?_ ?_
    ·
     refine oK ?_;simp (maxSteps:=2000000)only[go_sem];all_goals((repeat' refine And.intro ?_ ?_)<;>first|rfl|(rw[A3z];exact hcl.symm)|(rw[A3z,hcl];done)|(congr 1;done)|(simp;done))
    rintro⟨m,hm⟩ K26 hL26
    have hl1:(A0X (A1L (xs.getD (xs.length - 1 - j) ((0,0,0,0,[],0):A1)) (X7 (gi,gr,ts,xs,os) j)) (xs.getD (xs.length - 1 - j) ((0,0,0,0,[],0):A1)).2.2.2.2.1 m).length=gr.toNat:=by rw[A1E,A6W,hlj]
    have hnx:m < (xs.getD (xs.length - 1 - j) ((0,0,0,0,[],0):A1)).2.2.2.2.1.length→A0X (A1L (xs.getD (xs.length - 1 - j) ((0,0,0,0,[],0):A1)) (X7 (gi,gr,ts,xs,os) j)) (xs.getD (xs.length - 1 - j) ((0,0,0,0,[],0):A1)).2.2.2.2.1 (m+1)=_:=fun h=>A4U h
    refine oS fun _ hK27=>?_;refine oW C3 ?_;simp only[go_sem];refine hK27 _ ?_;refine oS fun _ hK28=>?_;refine oC rfl ?_ ?_
    ·
     intro c5;have hfi:=O1 hip.2.1 (C6 (d:=0) (i:=m) (by show m < (xs.getD (xs.length - 1 - j) ((0,0,0,0,[],0):A1)).2.2.2.2.1.length;omega))
     have hfb:0≤(xs.getD (xs.length - 1 - j) ((0,0,0,0,[],0):A1)).2.2.2.2.1.getD m 0∧(xs.getD (xs.length - 1 - j) ((0,0,0,0,[],0):A1)).2.2.2.2.1.getD m 0 < (gr.toNat:Int):=by
       have h1:0≤(xs.getD (xs.length - 1 - j) ((0,0,0,0,[],0):A1)).2.2.2.2.1.getD m 0∧(xs.getD (xs.length - 1 - j) ((0,0,0,0,[],0):A1)).2.2.2.2.1.getD m 0≤gr - 1:=hfi
       omega
     refine A2 ?_;simp only[go_sem];refine hK28 _ ?_;refine oS fun _ hK29=>?_;refine A3 ?_;refine oS fun _ hK30=>?_;refine oW C3 ?_;simp only[go_sem];repeat(with_reducible refine oA ?_)
     refine hK30 _ ?_;refine oW C3 ?_;simp only[hl1,go_sem];repeat(with_reducible first|refine oA ?_|refine And.intro (by first|exact hfb|omega) ?_)
     refine hK29 _ ?_;refine oW C3 ?_;simp only[go_sem];refine hL26 ⟨m+1,by omega⟩ _ (oK ?_) ?_
     ·
      simp (maxSteps:=2000000)only[go_sem];all_goals(try rw[hnx (by omega)])
      all_goals((repeat' refine And.intro ?_ ?_)<;>first|rfl|exact wk (by omega)|(congr 1;done))
     ·
      first|(simp only[];omega)|omega|(simp;omega)
    intro c5
    have hnj:A0X (A1L (xs.getD (xs.length - 1 - j) ((0,0,0,0,[],0):A1)) (X7 (gi,gr,ts,xs,os) j)) (xs.getD (xs.length - 1 - j) ((0,0,0,0,[],0):A1)).2.2.2.2.1 m=X7 (gi,gr,ts,xs,os) (j+1):=by
      have hme:m=(xs.getD (xs.length - 1 - j) ((0,0,0,0,[],0):A1)).2.2.2.2.1.length:=by omega
      rw[hme];rfl
    refine B6 ?_;simp only[go_sem];refine hK21 _ ?_;refine oW C3 ?_;simp only[go_sem];refine hL18 ⟨j+1,by omega⟩ _ (oK ?_) ?_
    ·
     simp (maxSteps:=2000000)only[go_sem];all_goals((repeat' refine And.intro ?_ ?_)<;>first|rfl|(rw[H4 (by omega)];omega)|exact hnj|(congr 1;done))
    ·
     first|(simp only[];omega)|omega|(simp;omega)
   intro c4;have h18:(xs.getD (xs.length - 1 - j) ((0,0,0,0,[],0):A1)).1=18:=by first|assumption|omega
   have hcl:(A1L (xs.getD (xs.length - 1 - j) ((0,0,0,0,[],0):A1)) (X7 (gi,gr,ts,xs,os) j))=_:=B9L h18
   refine A2 ?_;simp only[go_sem];refine hK23 _ ?_;refine oS fun _ hK31=>?_;refine oW C3 ?_;simp only[go_sem];repeat(with_reducible refine oA ?_)
   refine hK31 _ ?_;refine A3 ?_;refine A8 (ι:={ m:Nat // m≤(xs.getD (xs.length - 1 - j) ((0,0,0,0,[],0):A1)).2.2.2.2.1.length }) (fun k'=>⟨[zz,.c (.sc (.int .i64 (kk))),.c (.po 132 0),zz,zz,zz,.c (.ow 9001),zz,zz,.c (.sc (.int .i64 (((xs.length:Int) - 1 - (j:Int))))),zz,zz,zz,zz,zz,zz,zz,zz,zz,zz,zz,zz,zz,zz,zz,zz,zz,zz,zz,zz,zz,zz,zz,zz,zz,zz,zz,zz,zz,zz,zz,zz,zz,zz,zz,zz,zz,zz,zz,zz,zz,zz,zz,zz,zz,zz,zz,zz,zz,zz,zz,zz,.c (.rd [] 2 (.int .i64) ((xs.getD (xs.length - 1 - j) ((0,0,0,0,[],0):A1)).2.2.2.2.1)),.c (.sc (.int .i64 ((xs.getD (xs.length - 1 - j) ((0,0,0,0,[],0):A1)).2.2.2.2.1.length))),.c (.sc (.int .i64 (k'.1))),zz,zz,zz,zz,zz,zz,zz,zz,zz,zz,zz,zz,zz,zz,zz,zz,zz,zz,zz,zz,zz,zz],[(132,.box [.sc (.int .i64 (gi)),.sc (.int .i64 (gr)),.rd [] 26 ((.row 2 (.int .i64))) ts,.rd [] 64 ((.prod (.int .i64) (.prod (.int .i64) (.prod (.int .i64) (.prod (.int .i64) (.prod (.row 2 (.int .i64)) (.int .i64))))))) xs,.rd [] 2 (.int .i64) (os)]),(9001,.row 4 (.bool) (A0X (A1L (xs.getD (xs.length - 1 - j) ((0,0,0,0,[],0):A1)) (X7 (gi,gr,ts,xs,os) j)) (xs.getD (xs.length - 1 - j) ((0,0,0,0,[],0):A1)).2.2.2.2.1 k'.1) [])]⟩) (fun k'=>(xs.getD (xs.length - 1 - j) ((0,0,0,0,[],0):A1)).2.2.2.2.1.length - k'.1) ⟨0,by simp⟩ ?_ ?_
   ·
    refine oK ?_;simp (maxSteps:=2000000)only[go_sem];all_goals((repeat' refine And.intro ?_ ?_)<;>first|rfl|(rw[A3z];exact hcl.symm)|(rw[A3z,hcl];done)|(congr 1;done)|(simp;done))
   rintro⟨m,hm⟩ K32 hL32
   have hl1:(A0X (A1L (xs.getD (xs.length - 1 - j) ((0,0,0,0,[],0):A1)) (X7 (gi,gr,ts,xs,os) j)) (xs.getD (xs.length - 1 - j) ((0,0,0,0,[],0):A1)).2.2.2.2.1 m).length=gr.toNat:=by rw[A1E,A6W,hlj]
   have hnx:m < (xs.getD (xs.length - 1 - j) ((0,0,0,0,[],0):A1)).2.2.2.2.1.length→A0X (A1L (xs.getD (xs.length - 1 - j) ((0,0,0,0,[],0):A1)) (X7 (gi,gr,ts,xs,os) j)) (xs.getD (xs.length - 1 - j) ((0,0,0,0,[],0):A1)).2.2.2.2.1 (m+1)=_:=fun h=>A4U h
   refine oS fun _ hK33=>?_;refine oW C3 ?_;simp only[go_sem];refine hK33 _ ?_;refine oS fun _ hK34=>?_;refine oC rfl ?_ ?_
   ·
    intro c5;have hfi:=O1 hip.2.1 (C6 (d:=0) (i:=m) (by show m < (xs.getD (xs.length - 1 - j) ((0,0,0,0,[],0):A1)).2.2.2.2.1.length;omega))
    have hfb:0≤(xs.getD (xs.length - 1 - j) ((0,0,0,0,[],0):A1)).2.2.2.2.1.getD m 0∧(xs.getD (xs.length - 1 - j) ((0,0,0,0,[],0):A1)).2.2.2.2.1.getD m 0 < (gr.toNat:Int):=by
      have h1:0≤(xs.getD (xs.length - 1 - j) ((0,0,0,0,[],0):A1)).2.2.2.2.1.getD m 0∧(xs.getD (xs.length - 1 - j) ((0,0,0,0,[],0):A1)).2.2.2.2.1.getD m 0≤gr - 1:=hfi
      omega
    refine A2 ?_;simp only[go_sem];refine hK34 _ ?_;refine oS fun _ hK35=>?_;refine A3 ?_;refine oS fun _ hK36=>?_;refine oW C3 ?_;simp only[go_sem];repeat(with_reducible refine oA ?_)
    refine hK36 _ ?_;refine oW C3 ?_;simp only[hl1,go_sem];repeat(with_reducible first|refine oA ?_|refine And.intro (by first|exact hfb|omega) ?_)
    refine hK35 _ ?_;refine oW C3 ?_;simp only[go_sem];refine hL32 ⟨m+1,by omega⟩ _ (oK ?_) ?_
    ·
     simp (maxSteps:=2000000)only[go_sem];all_goals(try rw[hnx (by omega)])
     all_goals((repeat' refine And.intro ?_ ?_)<;>first|rfl|exact wk (by omega)|(congr 1;done))
    ·
     first|(simp only[];omega)|omega|(simp;omega)
   intro c5
   have hnj:A0X (A1L (xs.getD (xs.length - 1 - j) ((0,0,0,0,[],0):A1)) (X7 (gi,gr,ts,xs,os) j)) (xs.getD (xs.length - 1 - j) ((0,0,0,0,[],0):A1)).2.2.2.2.1 m=X7 (gi,gr,ts,xs,os) (j+1):=by
     have hme:m=(xs.getD (xs.length - 1 - j) ((0,0,0,0,[],0):A1)).2.2.2.2.1.length:=by omega
     rw[hme];rfl
   refine B6 ?_;simp only[go_sem];refine hK21 _ ?_;refine oW C3 ?_;simp only[go_sem];refine hL18 ⟨j+1,by omega⟩ _ (oK ?_) ?_
   ·
    simp (maxSteps:=2000000)only[go_sem];all_goals((repeat' refine And.intro ?_ ?_)<;>first|rfl|(rw[H4 (by omega)];omega)|exact hnj|(congr 1;done))
   ·
    first|(simp only[];omega)|omega|(simp;omega)
  intro c3;have hj3:j=xs.length - 1 - kk.toNat:=by omega
  refine B6 ?_;simp only[go_sem];refine hK16 _ ?_;refine oS fun _ hK37=>?_;refine oW C3 ?_;simp only[List.nodup_cons,List.nodup_nil,List.not_mem_nil,not_false_eq_true,go_sem];repeat(with_reducible refine oA ?_)
  refine hK37 _ ?_;refine oS fun _ hK38=>?_;refine oS fun _ hK39=>?_;refine oW C3 ?_;simp only[go_sem];refine hK39 _ ?_;refine A3 ?_;refine A8 (ι:={ m:Nat // m≤gr.toNat }) (fun k'=>⟨[zz,zz,zz,zz,zz,zz,zz,zz,zz,zz,zz,zz,zz,.c (.ow 9002),zz,zz,zz,zz,zz,zz,zz,zz,zz,zz,zz,zz,zz,zz,zz,zz,zz,zz,zz,zz,zz,zz,zz,zz,zz,zz,zz,zz,zz,zz,zz,zz,zz,zz,zz,zz,zz,zz,zz,zz,zz,zz,zz,zz,zz,zz,zz,zz,zz,zz,zz,zz,zz,zz,zz,zz,zz,zz,zz,.c (.ow 9001),.c (.sc (.int .i64 (((gr.toNat:Nat):Int)))),.c (.sc (.int .i64 (k'.1))),zz,zz,zz,zz,zz,zz,zz,zz,zz,zz,zz],[(9001,.row 4 (.bool) (X7 (gi,gr,ts,xs,os) j) []),(9002,.row 2 (.int .i64) (V3 (X7 (gi,gr,ts,xs,os) j) k'.1) [])]⟩) (fun k'=>gr.toNat - k'.1) ⟨0,by simp⟩ ?_ ?_
  ·
   refine oK ?_;simp (maxSteps:=2000000)only[go_sem];all_goals((repeat' refine And.intro ?_ ?_)<;>first|rfl|exact congrArg _ hlj|(rw[hlj];done)|(congr 1;done)|(simp;done))
  rintro⟨m,hm⟩ K40 hL40
  have hpl:=A7d (X7 (gi,gr,ts,xs,os) j) m
  refine oS fun _ hK41=>?_;refine oW C3 ?_;simp only[go_sem];refine hK41 _ ?_;refine oS fun _ hK42=>?_;refine oC rfl ?_ ?_
  ·
   intro c6;refine A2 ?_;simp only[go_sem];refine hK42 _ ?_;refine oS fun _ hK43=>?_;refine A3 ?_;refine oS fun _ hK44=>?_;refine oW C3 ?_;simp (maxSteps:=2000000)only[go_sem];repeat(with_reducible first|refine oA ?_|refine And.intro (by first|exact⟨by omega,by omega⟩|omega) ?_)
   refine hK44 _ ?_;refine oS fun _ hK45=>?_;refine oW C3 ?_;simp only[go_sem];refine hK45 _ ?_;refine oC rfl ?_ ?_
   ·
    intro c7;have hpk:V3 (X7 (gi,gr,ts,xs,os) j) m++[(m:Int)]=V3 (X7 (gi,gr,ts,xs,os) j) (m+1):=(B37 (by assumption)).symm
    refine oW C3 ?_;simp (maxSteps:=2000000)only[List.nodup_cons,List.nodup_nil,List.not_mem_nil,not_false_eq_true,go_sem];repeat(with_reducible first|refine oA ?_|refine And.intro (by first|omega) ?_)
    refine hK43 _ ?_;refine oW C3 ?_;simp only[go_sem];refine hL40 ⟨m+1,by omega⟩ _ (oK ?_) ?_
    ·
     simp (maxSteps:=2000000)only[go_sem];all_goals((repeat' refine And.intro ?_ ?_)<;>first|rfl|exact wk (by omega)|exact hpk|(congr 1;exact hpk)|(congr 1;done))
    ·
     first|(simp only[];omega)|omega|(simp;omega)
   intro c7;have hpk:V3 (X7 (gi,gr,ts,xs,os) j) m=V3 (X7 (gi,gr,ts,xs,os) j) (m+1):=(B2w (by assumption)).symm
   refine A2 ?_;simp only[go_sem];refine hK43 _ ?_;refine oW C3 ?_;simp only[go_sem];refine hL40 ⟨m+1,by omega⟩ _ (oK ?_) ?_
   ·
    simp (maxSteps:=2000000)only[go_sem];all_goals((repeat' refine And.intro ?_ ?_)<;>first|rfl|exact wk (by omega)|exact hpk|(congr 1;exact hpk)|(congr 1;done))
   ·
    first|(simp only[];omega)|omega|(simp;omega)
  intro c6;refine B6 ?_;simp only[go_sem];refine hK38 _ ?_;refine oS fun _ hK46=>?_;refine oW C3 ?_;simp only[go_sem];refine hK46 _ ?_;refine A0 ?_;simp only[hres,go_sem]
  first
   | exact oF
   | refine ⟨?_, oF⟩
     rw[B2i hP hin];have hme:m=gr.toNat:=by omega
     clear hK1 hK2 hK3 hK5 hK6 hK8 hK9 hK10 hL11 hK12 hK13 hK16 hK17 hL18 hK19 hK20 hK37 hK38 hK39 hL40 hK41 hK42 hK46;subst hme;subst hj3;first|rfl|exact⟨rfl,rfl⟩
def A2a:G4:=fun f=>if f=12 then some (.p t6) else A8W f
theorem A7B:B5 Tryz.prog A2a:=F8 B0Z (B0 Tryz.func12 rfl (by decide)) C3
attribute [go_sem] A2a t6
end Go.Proofs.YtenjbehedcegdaaGreat
