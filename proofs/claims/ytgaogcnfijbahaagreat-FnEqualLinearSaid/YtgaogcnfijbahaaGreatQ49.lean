/-
  Texts of this claim, joined (part 49). No condition beyond those of the theorems.
-/
import Derived.Test.YtgaogcnfijbahaaGreatQ35
import Derived.Test.YtgaogcnfijbahaaGreatQ44
import Derived.Test.YtgaogcnfijbahaaGreatQ05
import Derived.Test.YtgaogcnfijbahaaGreatQ48
import Derived.Test.YtgaogcnfijbahaaGreatQ38
import Derived.Test.YtgaogcnfijbahaaGreatQ46
namespace Go.Proofs.YtgaogcnfijbahaaGreat
open Go.RowKit
set_option linter.unusedSimpArgs false
set_option linter.unusedVariables false
set_option maxRecDepth 100000
set_option maxHeartbeats 4000000
def A9m:E4:=fun f=>match A8b f with
 | some k=>some k
 | none=>A0a f
theorem T2:B4 Tryz.prog A9m:=N2 B0T A2i
attribute [go_sem] A9m T0
def Y4:GCon where
  ps:=[.val ((.prod (.int .i64) (.prod (.row 26 (.row 2 (.int .i64))) (.prod (.row 95 (.prod (.int .i64) (.prod (.int .i64) (.prod (.int .i64) (.row 2 (.int .i64)))))) (.row 2 (.int .i64))))))]
  os:=[]
  c:=fun x=>B9 x.1.1=true
  r:=fun _=>.agg [.ow 10]
  o:=fun x=>[(10,.tree 26 (.row 2 (.int .i64)) (W9 x.1.1) none)]
  ok:=by
    rintro⟨⟨⟨(pi:Int),(ts:List (List Int)),(ns:List A6),(os:List Int)⟩,_⟩,_⟩
    exact⟨rfl,rfl,by decide⟩
theorem B0v:Z2 Tryz.prog 91 Y4:=by
  refine E1 Tryz.func91 rfl ?_
  have hres:Tryz.f91.results.toList=[.cell 2 89]:=rfl
  rintro⟨⟨⟨(pi:Int),(ts:List (List Int)),(ns:List A6),(os:List Int)⟩,_⟩,_⟩ hc hL hO
  simp only[Y4,go_sem] at hL
  simp only[Y4,go_sem] at hO
  simp only[Y4,St.init,St.initG,Tryz.ntmps91,go_sem] 
  have hP:B9 (pi,ts,ns,os)=true:=hc
  have hF:=(B8 hP).1
  have hn24:ns.length≤24:=(A8 hF).1
  refine oS fun _ hK1=>?_;refine oW T2 ?_;simp only[go_sem];repeat(with_reducible first|refine oA ?_|refine And.intro (by first|exact hnc2 (by omega)) ?_)
  refine hK1 _ ?_;refine oS fun _ hK2=>?_;refine oW T2 ?_;simp only[go_sem];repeat(with_reducible first|refine oA ?_|refine And.intro (by first|exact hnc2 (by omega)) ?_)
  refine hK2 _ ?_;refine oS fun _ hK3=>?_;refine oS fun _ hK4=>?_;refine oW T2 ?_;simp only[go_sem];repeat(with_reducible first|refine oA ?_|refine And.intro (by first|exact hnc2 (by omega)) ?_)
  refine hK4 _ ?_;refine A1 ?_;refine H8 (P9 _ 148 0 9001 26 ((.row 2 (.int .i64))) (by decide)) ?_;simp (maxSteps:=2000000)only[go_sem];refine A7 (ι:={ k:Nat // k≤ns.length }) (fun k=>⟨[zz,zz,.c (.po 132 0),.c (.po 148 0),zz,zz,zz,zz,.c (.rd [] 95 ((.prod (.int .i64) (.prod (.int .i64) (.prod (.int .i64) (.row 2 (.int .i64)))))) (ns)),.c (.sc (.int .i64 (ns.length))),.c (.sc (.int .i64 (k.1))),zz,zz,zz,zz,zz,zz,zz,zz,zz,zz,zz,zz],[(132,.box [.sc (.slice none 0 0)]),(148,.box [.ow 9001]),(9001,.tree 26 (.row 2 (.int .i64)) (((ns.take k.1).map D4)) none)]⟩) (fun k=>ns.length - k.1) ⟨0,by simp⟩ ?_ ?_
  ·
   refine oK ?_;simp (maxSteps:=2000000)only[go_sem];all_goals((repeat' refine And.intro ?_ ?_)<;>first|rfl|(congr 1;done)|(simp;done))
  rintro⟨k,hk⟩ K5 hL5
  have hml:((ns.take k).map D4).length≤24:=by rw[List.length_map,List.length_take];omega
  have hnc:k < ns.length→A23 (ns.getD k (0,0,0,[])):=fun h=>⟨_,(G6 (d9 (p:=(pi,ts,ns,os)) (B8 hP).1 h)).1⟩
  have hnx:k < ns.length→(ns.take k).map D4++[D4 (ns.getD k (0,0,0,[]))]=(ns.take (k+1)).map D4:=fun h=>A4N _ h
  have hnc2:k < ns.length→A23 ((ns.getD k (0,0,0,[])).1,(ns.getD k (0,0,0,[])).2.1,(ns.getD k (0,0,0,[])).2.2.1,(ns.getD k (0,0,0,[])).2.2.2):=hnc
  refine oS fun _ hK6=>?_;refine oW T2 ?_;simp only[go_sem];repeat(with_reducible first|refine oA ?_|refine And.intro (by first|exact hnc2 (by omega)) ?_)
  refine hK6 _ ?_;refine oS fun _ hK7=>?_;refine oC rfl ?_ ?_
  ·
   intro c0;refine A2 ?_;simp only[go_sem];refine hK7 _ ?_;refine oS fun _ hK8=>?_;refine A1 ?_;refine oS fun _ hK9=>?_;refine oW T2 ?_;simp only[go_sem];repeat(with_reducible first|refine oA ?_|refine And.intro (by first|exact hnc2 (by omega)) ?_)
   refine hK9 _ ?_
   refine oR T2
     [[],[0],[],[2],[2,3],[0,1,2,3,4],[0,1,2,3,4,5],[0,1,2,3,4,5,6]]
     [[372,373,374,375,376,377,378,379,380,381,382,383,384,385,386,387,388],[372,373,374,375,376,377,378,379,380,381,382,383,384,385,386,387,388],[],[],[],[],[],[]]
     [[],[],[],[372,373,374,375,376,377,378,379,380,381,382,383,384,385,386,387],[372,373,374,375,376,377,378,379,380,381,382,383,384,385,386,387,388],[],[],[]] (by kernel_rfl) (by kernel_rfl) (A9 (acc:=[]) ?_)
   simp (maxSteps:=2000000)only[List.nodup_cons,List.nodup_nil,List.not_mem_nil,not_false_eq_true,go_sem];repeat(with_reducible first|refine oD ?_|refine And.intro (by first|exact hnc2 (by omega)) ?_)
   refine hK8 _ ?_;refine oW T2 ?_;simp only[go_sem];repeat(with_reducible first|refine oA ?_|refine And.intro (by first|exact hnc2 (by omega)) ?_)
   refine hL5 ⟨k+1,by omega⟩ _ (oK ?_) ?_
   ·
    simp (maxSteps:=2000000)only[go_sem];all_goals((repeat' refine And.intro ?_ ?_)<;>first|rfl|exact wk (by omega)|(congr 1;exact hnx (by omega))|exact hnx (by omega))
   ·
    first|(simp only[];omega)|omega|(simp;omega)
  intro c0;refine B6 ?_;simp only[go_sem];refine hK3 _ ?_;refine oS fun _ hK10=>?_;refine oW T2 ?_;simp only[go_sem];repeat(with_reducible first|refine oA ?_|refine And.intro (by first|exact hnc2 (by omega)) ?_)
  refine hK10 _ ?_;refine A0 ?_;simp only[hres,go_sem];first|exact oG|(refine⟨oG,?_⟩;(repeat' refine And.intro ?_ ?_)<;>first|rfl|(congr 1;exact congrArg (List.map D4) (List.take_of_length_le (by omega)))|(congr 1;done))
def A2s:E4:=fun f=>if f=91 then some (.g Y4) else A9m f
theorem A8C:B4 Tryz.prog A2s:=m8 B0v (B0 Tryz.func91 rfl (by decide)) T2
attribute [go_sem] A2s Y4
set_option maxRecDepth 100000
set_option maxHeartbeats 4000000
def A9M:E4:=fun f=>match A7V f with
 | some k=>some k
 | none=>A2s f
theorem B5c:B4 Tryz.prog A9M:=N2 B33 A8C
attribute [go_sem] A9M T0
def A9k:E4:=fun f=>match A9M f with
 | some k=>some k
 | none=>A2T f
theorem A3h:B4 Tryz.prog A9k:=N2 B5c A4t
attribute [go_sem] A9k T0
def Z4:Con:=⟨[.val ((.prod (.int .i64) (.prod (.row 26 (.row 2 (.int .i64))) (.prod (.row 95 (.prod (.int .i64) (.prod (.int .i64) (.prod (.int .i64) (.row 2 (.int .i64)))))) (.row 2 (.int .i64)))))),.val ((.row 26 (.row 2 (.int .i64)))),.val (.int .i64)],[⟨(.row 26 (.row 2 (.int .i64))),true⟩],fun x=>B9 x.1=true∧J9 x.1 x.2.1∧J3 x.2.2.1 0 1000000=true,fun x=>H9 x.1 x.2.1 (Int.toNat x.2.2.1)⟩
theorem B0j:C9 Tryz.prog 45 Z4:=by
  refine A4 Tryz.func45 rfl ?_
  have hres:Tryz.f45.results.toList=[.tmp 6]:=rfl
  rintro⟨⟨(pi:Int),(ts:List (List Int)),(ns:List A6),(os:List Int)⟩,(ins:List (List Int)),(nn:Int),_⟩ hc hL
  simp only[Z4,go_sem] at hL
  simp only[Z4,St.init,St.initG,Tryz.ntmps45,go_sem] 
  obtain⟨hP,hin,hnr⟩:=(show B9 (pi,ts,ns,os)=true∧J9 (pi,ts,ns,os) ins∧J3 nn 0 1000000=true from hc)
  obtain⟨hn1,hn2⟩:=C1.1 hnr
  have hF:=(B8 hP).1
  have hs0:=n8 hF
  have h00:(0:Int)≤0:=Int.le_refl _
  have h0n:0+nn≤1000000:=by omega
  refine oS fun _ hK1=>?_;refine oW A3h ?_;simp only[go_sem];refine hK1 _ ?_;refine oS fun _ hK2=>?_
  refine oR A3h
    [[],[],[1],[0,1,2],[],[],[0,1,2,3,4,5],[0,1,2,3,4,5,6]]
    [[244,245,246,247,248,249,250,251,252,253,254,255,256,257,258,259,260,261,262,263],[],[],[],[244,245,246,247,248,249,250,251,252,253,254,255,256,257,258,259,260,261,262,263,264,265,266,267,268,269,270,271,272,273,274,275],[244,245,246,247,248,249,250,251,252,253,254,255,256,257,258,259,260,261,262,263,264,265,266,267,268,269,270,271,272,273,274,275],[],[]]
    [[],[],[244,245,246,247,248,249,250,251,252,253,254,255,256,257,258,259,260,261,262,263],[260,261,262,263,264,265,266,267,268,269,270,271,272,273,274,275],[],[],[],[]] (by kernel_rfl) (by kernel_rfl) (A9 (acc:=[]) ?_)
  simp (maxSteps:=2000000)only[go_sem];repeat(with_reducible first|refine oD ?_|refine And.intro (by first|exact hP|exact⟨hP,hs0⟩|exact⟨hP,hs0,hin,h00,hn1,h0n⟩|exact⟨hP,L9 _,hs0,hin,h00,hn1,h0n⟩|exact⟨hP,rfl,L9 _,hs0,hin,h00,hn1,h0n⟩|exact⟨hP,hs0,hin,hn2⟩|exact⟨hP,hs0,hin,hn1,hn2⟩|exact⟨hP,hs0,hin,h00,hn1,hn2⟩|exact⟨hP,L9 _,hs0,hin,hn2⟩|exact⟨hP,L9 _,hs0,hin,hn1,hn2⟩|exact⟨hP,L9 _,hs0,hin,h00,hn1,hn2⟩) ?_)
  refine hK2 _ ?_;refine A0 ?_;simp only[hres,go_sem];first|exact oF|exact oFr
def A1g:E4:=fun f=>if f=45 then some (.p Z4) else A9k f
theorem A7A:B4 Tryz.prog A1g:=E3 B0j (B0 Tryz.func45 rfl (by decide)) A3h
attribute [go_sem] A1g Z4
def A0E:E4:=A1g
theorem A2x:B4 Tryz.prog A0E:=A7A
attribute [go_sem] A0E
set_option maxRecDepth 100000
set_option maxHeartbeats 8000000
def B36:E4:=fun f=>match A5n f with
 | some k=>some k
 | none=>A3d f
theorem B75:B4 Tryz.prog B36:=N2 B0p A8l
attribute [go_sem] B36 T0
def B26:E4:=fun f=>match B36 f with
 | some k=>some k
 | none=>A0E f
theorem X5:B4 Tryz.prog B26:=N2 B75 A2x
attribute [go_sem] B26 T0
def A2J:Con:=⟨[.val ((.prod (.int .i64) (.prod (.row 26 (.row 2 (.int .i64))) (.prod (.row 95 (.prod (.int .i64) (.prod (.int .i64) (.prod (.int .i64) (.row 2 (.int .i64)))))) (.row 2 (.int .i64)))))),.val (.int .i64),.val (.int .i64)],[⟨(.prod (.row 2 (.int .i64)) (.row 2 (.int .i64))),true⟩],fun x=>linOkP x.1∧(0≤x.2.1∧x.2.1 < x.1.1)∧(0≤x.2.2.1∧x.2.2.1 < x.1.2.2.2.length),fun x=>M7 (F6 (D0 x.1)) x.2.1 x.2.2.1⟩
theorem B7n:C9 Tryz.prog 20 A2J:=by
  refine A4 Tryz.func20 rfl ?_
  have hres:Tryz.f20.results.toList=[.cell 6 50]:=rfl
  rintro⟨⟨(pi:Int),(ts:List (List Int)),(ns:List A6),(os:List Int)⟩,(ii:Int),(oo:Int),_⟩ hc hL
  simp only[A2J,go_sem] at hL
  simp only[A2J,St.init,St.initG,Tryz.ntmps20,go_sem] 
  obtain⟨hk,⟨i1,i2⟩,⟨o1,o2⟩⟩:=(show linOkP (pi,ts,ns,os)∧(0≤ii∧ii < pi)∧(0≤oo∧oo < os.length) from hc)
  rcases hX:F6 (D0 (pi,ts,ns,os)) with⟨ni,la,lb,lc,ld⟩
  obtain⟨hW,ha1,hni,hlo,hsq⟩:=A5u hk hX
  have hP:B9 (pi,ts,ns,os)=true:=hk.ok
  have hp4:0≤pi∧pi≤4:=hk.i4
  have ho4:os.length≤4:=hk.o4
  have hdl:(chN la la.length).length=la.length+1:=A0F _ _
  have hdc:(((chN la la.length).length:Nat):Int)=(la.length:Int)+1:=by omega
  have htn:Int.toNat ((la.length:Int)+1)=la.length+1:=by omega
  obtain⟨Y,hY⟩:∃Y,H9 (pi,ts,ns,os) ((List.replicate (Int.toNat pi) ([]:List Int)).set (Int.toNat ii) [1]) (la.length+1)=Y:=⟨_,rfl⟩
  obtain⟨hYl,hYr⟩:=C6B hk hX ⟨i1,i2⟩ ⟨o1,o2⟩ _ hY
  have hYl:Y.length=os.length:=hYl
  have hrc:B9 (pi,ts,ns,os)=true∧J9 (pi,ts,ns,os) ((List.replicate (Int.toNat pi) ([]:List Int)).set (Int.toNat ii) [1])∧J3 ((la.length:Int)+1) 0 1000000=true:=⟨hP,A4f (q:=(pi,ts,ns,os)) hp4.1 ii,J8 (by omega) (by omega)⟩
  have hcv:J3 ((la.length:Int)+1) 0 1000=true∧(chN la la.length).length≤1000:=⟨J8 (by omega) (by omega),by omega⟩
  have hd1:(chN la la.length).length≤1000:=by omega
  have hc1:(t7 (chN la la.length) (m9 (ni,la,lb,lc,ld) ii oo (la.length+1)) (la.length+1)).length≤1000:=by rw[a9];omega
  have hin4:(List.replicate (Int.toNat pi) ([]:List Int)).length=Int.toNat pi:=List.length_replicate
  refine oS fun _ hK1=>?_;refine oW X5 ?_;simp only[go_sem];refine hK1 _ ?_;refine oS fun _ hK2=>?_;refine oW X5 ?_;simp (maxSteps:=2000000)only[List.nodup_cons,List.nodup_nil,List.not_mem_nil,not_false_eq_true,hX,go_sem];repeat(with_reducible first|refine oA ?_|refine And.intro (by first|exact hP|exact hsq) ?_)
  refine hK2 _ ?_;refine oS fun _ hK3=>?_;refine oW X5 ?_;simp only[List.nodup_cons,List.nodup_nil,List.not_mem_nil,not_false_eq_true,go_sem];repeat(with_reducible first|refine oA ?_|refine And.intro (by first|omega) ?_)
  refine hK3 _ ?_;refine oS fun _ hK4=>?_;refine oW X5 ?_;simp (maxSteps:=2000000)only[List.nodup_cons,List.nodup_nil,List.not_mem_nil,not_false_eq_true,hin4,go_sem];repeat(with_reducible first|refine oA ?_|refine And.intro (by first|omega) ?_)
  refine hK4 _ ?_;refine oS fun _ hK5=>?_;refine oW X5 ?_;simp only[hdc,go_sem];repeat(with_reducible refine oA ?_)
  refine hK5 _ ?_;refine oS fun _ hK6=>?_;refine oW X5 ?_;simp (maxSteps:=2000000)only[List.nodup_cons,List.nodup_nil,List.not_mem_nil,not_false_eq_true,htn,hY,hYr,hYl,go_sem];repeat(with_reducible first|refine oA ?_|refine And.intro (by first|exact hrc|omega) ?_)
  refine hK6 _ ?_;refine oS fun _ hK7=>?_;refine oW X5 ?_;simp (maxSteps:=2000000)only[List.nodup_cons,List.nodup_nil,List.not_mem_nil,not_false_eq_true,htn,hdc,hYr,go_sem];repeat(with_reducible first|refine oA ?_|refine And.intro (by first|exact hcv|exact hc1|exact hd1) ?_)
  refine hK7 _ ?_;refine A0 ?_;simp only[hres,go_sem];first|exact oF|(refine⟨?_,oF⟩;first|exact⟨rfl,rfl⟩|rfl)
def A7X:E4:=fun f=>if f=20 then some (.p A2J) else B26 f
theorem B3l:B4 Tryz.prog A7X:=E3 B7n (B0 Tryz.func20 rfl (by decide)) X5
attribute [go_sem] A7X A2J
def A3J:E4:=A7X
theorem A9F:B4 Tryz.prog A3J:=B3l
attribute [go_sem] A3J
end Go.Proofs.YtgaogcnfijbahaaGreat
