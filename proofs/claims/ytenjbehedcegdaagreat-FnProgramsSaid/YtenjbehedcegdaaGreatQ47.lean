/-
  Texts of this claim, joined (part 47). No condition beyond those of the theorems.
-/
import Derived.Test.YtenjbehedcegdaaGreatQ23
import Derived.Test.YtenjbehedcegdaaGreatQ43
import Derived.Test.YtenjbehedcegdaaGreatQ44
namespace Go.Proofs.YtenjbehedcegdaaGreat
open Go.RowKit
set_option linter.unusedSimpArgs false
set_option linter.unusedVariables false
set_option maxRecDepth 100000
set_option maxHeartbeats 8000000
def A7y:G4:=fun f=>match A5H f with
 | some k=>some k
 | none=>A1a f
theorem A2h:B5 Tryz.prog A7y:=W6 A66 H0
attribute [go_sem] A7y T0
def A0c:Con:=⟨[.ptr (.prod (.int .i64) (.prod (.int .i64) (.prod (.int .i64) (.prod (.int .i64) (.prod (.row 2 (.int .i64)) (.int .i64))))))],[⟨(.prod (.int .i64) (.prod (.int .i64) (.prod (.int .i64) (.row 2 (.int .i64))))),false⟩],fun _=>True,fun x=>H2 x.1⟩
theorem B1m:C8 Tryz.prog 92 A0c:=by
  refine A4 Tryz.func92 rfl ?_
  have hres:Tryz.f92.results.toList=[.cell 2 67]:=rfl
  rintro⟨⟨(kd:Int),(a:Int),(bb:Int),(nd:Int),(fr:List Int),(tt:Int)⟩,_⟩ hc hL
  simp only[A0c,go_sem] at hL
  simp only[A0c,St.init,St.initG,Tryz.ntmps92,go_sem] 
  refine oS fun _ hK1=>?_;refine oW A2h ?_;simp only[go_sem];refine hK1 _ ?_;refine oS fun _ hK2=>?_
  refine oR A2h
    [[],[0],[0,1],[0,1,2],[],[4],[4,5],[4,5,6],[],[8],[8,9],[8,9,10],[],[12],[12,13],[12,13,14],[0,1,2,3,4,5,6,7,8,9,10,11,12,13,14,15],[0,1,2,3,4,5,6,7,8,9,10,11,12,13,14,15,16]]
    [[],[],[],[],[],[],[],[],[],[],[],[],[],[],[],[],[],[]]
    [[],[],[],[],[],[],[],[],[],[],[],[],[],[],[],[],[],[]] (by kernel_rfl) (by kernel_rfl) (A7 (acc:=[]) ?_)
  simp (maxSteps:=2000000)only[go_sem];repeat(with_reducible refine oD ?_)
  refine hK2 _ ?_;refine A0 ?_;simp only[hres,go_sem];first|exact oF|exact oFr
def A45:G4:=fun f=>if f=92 then some (.p A0c) else A7y f
theorem I5:B5 Tryz.prog A45:=F8 B1m (B0 Tryz.func92 rfl (by decide)) A2h
attribute [go_sem] A45 A0c
def A1v:Con:=⟨[.ptr (.prod (.int .i64) (.prod (.int .i64) (.prod (.row 26 (.row 2 (.int .i64))) (.prod (.row 64 (.prod (.int .i64) (.prod (.int .i64) (.prod (.int .i64) (.prod (.int .i64) (.prod (.row 2 (.int .i64)) (.int .i64))))))) (.row 2 (.int .i64))))))],[⟨.bool,true⟩],fun x=>x.1.2.2.2.1.length≤48,fun x=>A2r x.1.2.2.2.1 x.1.2.2.2.2⟩
theorem B3d:C8 Tryz.prog 68 A1v:=by
  refine A4 Tryz.func68 rfl ?_
  have hres:Tryz.f68.results.toList=[.tmp 2]:=rfl
  rintro⟨⟨(gi:Int),(gr:Int),(ts:List (List Int)),(xs:List A1),(os:List Int)⟩,_⟩ hc hL
  simp only[A1v,go_sem] at hL
  simp only[A1v,St.init,St.initG,Tryz.ntmps68,go_sem] 
  have hxl:xs.length≤48:=hc
  have hx0:x0=((0,0,0,0,[],0):A1):=rfl
  refine oS fun _ hK1=>?_;refine oW I5 ?_;simp only[go_sem];refine hK1 _ ?_;refine oS fun _ hK2=>?_;refine oW I5 ?_;simp only[List.nodup_cons,List.nodup_nil,List.not_mem_nil,not_false_eq_true,go_sem];repeat(with_reducible refine oA ?_)
  refine hK2 _ ?_;refine oS fun _ hK3=>?_;refine oS fun _ hK4=>?_;refine oW I5 ?_;simp only[go_sem];refine hK4 _ ?_;refine A3 ?_;refine A8 (ι:={ p:Nat × List Int // WrtI xs p∧p.2.length≤p.1 }) (fun k=>⟨[.c (.pt [] ((.prod (.int .i64) (.prod (.int .i64) (.prod (.row 26 (.row 2 (.int .i64))) (.prod (.row 64 (.prod (.int .i64) (.prod (.int .i64) (.prod (.int .i64) (.prod (.int .i64) (.prod (.row 2 (.int .i64)) (.int .i64))))))) (.row 2 (.int .i64))))))) (gi,gr,ts,xs,os) 0),zz,zz,.c (.ow 9001),.c (.sc (.int .i64 (k.1.1))),zz,zz,zz,zz,zz,zz,zz,zz,zz,zz,zz,zz,zz,zz,zz,zz,zz,zz,zz,zz,zz,zz,zz,zz,zz,zz,zz,zz,zz,zz,zz,zz,zz,zz,zz,zz,zz,zz,zz,zz,zz,zz,zz,zz,zz,zz,zz],[(9001,.row 2 (.int .i64) (k.1.2) [])]⟩) (fun k=>xs.length - k.1.1) ⟨(0,[]),WrtI.start _,by simp⟩ ?_ ?_
  ·
   refine oK ?_;simp (maxSteps:=2000000)only[go_sem];all_goals((repeat' refine And.intro ?_ ?_)<;>first|rfl|(congr 1;done)|(simp;done))
  rintro⟨⟨k,s⟩,hp,hsl⟩ K5 hL5
  have hkl:k≤xs.length:=hp.1
  simp only at hsl
  have hs8:(s.length+1) * 8≤140737488355328:=by omega
  refine oS fun _ hK6=>?_;refine oS fun _ hK7=>?_;refine oW I5 ?_;simp (maxSteps:=2000000)only[go_sem];repeat(with_reducible refine oA ?_)
  refine hK7 _ ?_;refine oC rfl ?_ ?_
  ·
   intro c0;refine A2 ?_;simp only[go_sem];refine hK6 _ ?_;refine oS fun _ hK8=>?_;refine A3 ?_;refine oS fun _ hK9=>?_;refine oS fun _ hK10=>?_;refine oW I5 ?_;simp (maxSteps:=2000000)only[go_sem];repeat(with_reducible refine oA ?_)
   refine hK10 _ ?_;refine oC rfl ?_ ?_
   ·
    intro c1;have hall:((xs.getD k ((0,0,0,0,[],0):A1)).2.2.2.2.1).all (fun f=>List.contains s f)=false:=by first|assumption|(clear hK1 hK2 hK3 hK4 hL5 hK6 hK7 hK8 hK9 hK10;simp_all;done)
    refine oS fun _ hK11=>?_;refine oW I5 ?_;simp only[go_sem];refine hK11 _ ?_;refine A0 ?_;simp only[hres,go_sem];first|exact oF|(refine⟨?_,oF⟩;exact(hp.no (by omega) hall).symm)
   intro c1;have hall:((xs.getD k ((0,0,0,0,[],0):A1)).2.2.2.2.1).all (fun f=>List.contains s f)=true:=by first|assumption|(clear hK1 hK2 hK3 hK4 hL5 hK6 hK7 hK8 hK9 hK10;simp_all;done)
   refine A2 ?_;simp only[go_sem];refine hK9 _ ?_;refine oS fun _ hK12=>?_;refine oW I5 ?_;simp (maxSteps:=2000000)only[go_sem];repeat(with_reducible refine oA ?_)
   refine hK12 _ ?_;refine oC rfl ?_ ?_
   ·
    intro c2;have h18:¬(xs.getD k ((0,0,0,0,[],0):A1)).1=18:=by first|assumption|omega
    refine oW I5 ?_;simp (maxSteps:=2000000)only[go_sem];repeat(with_reducible first|refine oA ?_|refine And.intro (by first|exact hs8|omega) ?_)
    refine hK8 _ ?_;refine oW I5 ?_;simp only[go_sem];first|(refine hL5 ⟨(k+1,s++[(xs.getD k ((0,0,0,0,[],0):A1)).2.2.2.2.2]),hp.node (by omega) hall h18,by simp at hsl ⊢;omega⟩ _ (oK ?_) ?_)|(refine hL5 ⟨(k+1,s),hp.store (by omega) hall h18,by simp at hsl ⊢;omega⟩ _ (oK ?_) ?_)
    ·
     simp (maxSteps:=2000000)only[go_sem];all_goals((repeat' refine And.intro ?_ ?_)<;>first|rfl|exact wk (by omega)|(congr 1;done))
    ·
     first|(simp only[];omega)|omega|(simp;omega)
   intro c2;have h18:(xs.getD k ((0,0,0,0,[],0):A1)).1=18:=by first|assumption|omega
   refine A2 ?_;simp only[go_sem];refine hK8 _ ?_;refine oW I5 ?_;simp only[go_sem];first|(refine hL5 ⟨(k+1,s++[(xs.getD k ((0,0,0,0,[],0):A1)).2.2.2.2.2]),hp.node (by omega) hall h18,by simp at hsl ⊢;omega⟩ _ (oK ?_) ?_)|(refine hL5 ⟨(k+1,s),hp.store (by omega) hall h18,by simp at hsl ⊢;omega⟩ _ (oK ?_) ?_)
   ·
    simp (maxSteps:=2000000)only[go_sem];all_goals((repeat' refine And.intro ?_ ?_)<;>first|rfl|exact wk (by omega)|(congr 1;done))
   ·
    first|(simp only[];omega)|omega|(simp;omega)
  intro c0;refine B6 ?_;simp only[go_sem];refine hK3 _ ?_;refine oS fun _ hK13=>?_;refine oW I5 ?_;simp (maxSteps:=2000000)only[go_sem];repeat(with_reducible refine oA ?_)
  refine hK13 _ ?_;refine A0 ?_;simp only[hres,go_sem];first|exact oF|(refine⟨?_,oF⟩;exact(hp.fin (by omega)).symm)
def A63:G4:=fun f=>if f=68 then some (.p A1v) else A45 f
theorem D9:B5 Tryz.prog A63:=F8 B3d (B0 Tryz.func68 rfl (by decide)) I5
attribute [go_sem] A63 A1v
def t7:Con:=⟨[.val ((.row 64 (.prod (.int .i64) (.prod (.int .i64) (.prod (.int .i64) (.prod (.int .i64) (.prod (.row 2 (.int .i64)) (.int .i64))))))))],[⟨.bool,true⟩],fun x=>x.1.length≤48,fun x=>b9 x.1⟩
theorem B0E:C8 Tryz.prog 67 t7:=by
  refine A4 Tryz.func67 rfl ?_
  have hres:Tryz.f67.results.toList=[.tmp 2]:=rfl
  rintro⟨(xs:List A1),_⟩ hc hL
  simp only[t7,go_sem] at hL
  simp only[t7,St.init,St.initG,Tryz.ntmps67,go_sem] 
  have hxl:xs.length≤48:=hc
  have hx0:x0=((0,0,0,0,[],0):A1):=rfl
  refine oS fun _ hK1=>?_;refine oW D9 ?_;simp only[go_sem];refine hK1 _ ?_;refine oS fun _ hK2=>?_;refine oW D9 ?_;simp only[List.nodup_cons,List.nodup_nil,List.not_mem_nil,not_false_eq_true,go_sem];repeat(with_reducible refine oA ?_)
  refine hK2 _ ?_;refine oS fun _ hK3=>?_;refine oW D9 ?_;simp only[List.nodup_cons,List.nodup_nil,List.not_mem_nil,not_false_eq_true,go_sem];repeat(with_reducible refine oA ?_)
  refine hK3 _ ?_;refine oS fun _ hK4=>?_;refine oS fun _ hK5=>?_;refine oW D9 ?_;simp only[go_sem];refine hK5 _ ?_;refine A3 ?_;refine A8 (ι:={ p:Nat × List Int × List Int // PairI xs p }) (fun k=>⟨[.c (.rd [] 64 ((.prod (.int .i64) (.prod (.int .i64) (.prod (.int .i64) (.prod (.int .i64) (.prod (.row 2 (.int .i64)) (.int .i64))))))) (xs)),zz,zz,.c (.ow 9001),.c (.ow 9002),.c (.sc (.int .i64 (k.1.1))),zz,zz,zz,zz,zz,zz,zz,zz,zz,zz,zz,zz,zz,zz,zz,zz,zz,zz,zz,zz,zz,zz,zz,zz,zz,zz,zz,zz,zz,zz,zz,zz,zz,zz,zz,zz,zz,zz,zz,zz,zz,zz,zz,zz,zz,zz,zz,zz,zz,zz,zz,zz,zz,zz,zz,zz,zz,zz,zz,zz,zz,zz,zz,zz,zz,zz,zz,zz,zz,zz,zz,zz,zz,zz,zz,zz,zz,zz],[(9001,.row 2 (.int .i64) (k.1.2.1) []),(9002,.row 2 (.int .i64) (k.1.2.2) [])]⟩) (fun k=>xs.length - k.1.1) ⟨(0,[],[]),⟨by simp,rfl,by simp,by simp⟩⟩ ?_ ?_
  ·
   refine oK ?_;simp (maxSteps:=2000000)only[go_sem];all_goals((repeat' refine And.intro ?_ ?_)<;>first|rfl|(congr 1;done)|(simp;done))
  rintro⟨⟨k,s,o⟩,hp⟩ K6 hL6
  obtain⟨hk,_,hsl,hol⟩:=id hp
  simp only at hk hsl hol
  have hs8:(s.length+1) * 8≤140737488355328:=by omega
  have ho8:(o.length+1) * 8≤140737488355328:=by omega
  refine oS fun _ hK7=>?_;refine oS fun _ hK8=>?_;refine oW D9 ?_;simp only[go_sem];refine hK8 _ ?_;refine oC rfl ?_ ?_
  ·
   intro c0;refine A2 ?_;simp only[go_sem];refine hK7 _ ?_;refine oS fun _ hK9=>?_;refine A3 ?_;refine oS fun _ hK10=>?_;refine oW D9 ?_;simp only[go_sem];repeat(with_reducible refine oA ?_)
   refine hK10 _ ?_;refine oS fun _ hK11=>?_;refine oS fun _ hK12=>?_;refine oW D9 ?_;simp (maxSteps:=2000000)only[go_sem];repeat(with_reducible refine oA ?_)
   refine hK12 _ ?_;refine oC rfl ?_ ?_
   ·
    intro c1;have h18:(xs.getD k ((0,0,0,0,[],0):A1)).1=18:=by first|assumption|omega
    refine oS fun _ hK13=>?_;refine oS fun _ hK14=>?_;refine oW D9 ?_;simp (maxSteps:=2000000)only[go_sem];repeat(with_reducible refine oA ?_)
    refine hK14 _ ?_;refine oC rfl ?_ ?_
    ·
     intro c2;have hco:o.contains (xs.getD k ((0,0,0,0,[],0):A1)).2.2.2.1=false:=by first|assumption|(clear hK1 hK2 hK3 hK4 hK5 hL6 hK7 hK8 hK9 hK10 hK11 hK12 hK13 hK14;simp_all;done)
     refine oS fun _ hK15=>?_;refine oW D9 ?_;simp only[go_sem];refine hK15 _ ?_;refine A0 ?_;simp only[hres,go_sem];first|exact oF|(refine⟨?_,oF⟩;exact(hp.lone (by omega) h18 hco).symm)
    intro c2;have hco:o.contains (xs.getD k ((0,0,0,0,[],0):A1)).2.2.2.1=true:=by first|assumption|(clear hK1 hK2 hK3 hK4 hK5 hL6 hK7 hK8 hK9 hK10 hK11 hK12 hK13 hK14;simp_all;done)
    refine A2 ?_;simp only[go_sem];refine hK13 _ ?_;refine oS fun _ hK16=>?_;refine oW D9 ?_;simp only[List.nodup_cons,List.nodup_nil,List.not_mem_nil,not_false_eq_true,go_sem];repeat(with_reducible refine oA ?_)
    refine hK16 _ ?_;refine oS fun _ hK17=>?_;refine oS fun _ hK18=>?_;refine oW D9 ?_;simp only[go_sem];refine hK18 _ ?_;refine A3 ?_;refine A8 (ι:={ m:Nat // m≤o.length }) (fun k'=>⟨[.c (.rd [] 64 ((.prod (.int .i64) (.prod (.int .i64) (.prod (.int .i64) (.prod (.int .i64) (.prod (.row 2 (.int .i64)) (.int .i64))))))) (xs)),zz,zz,.c (.ow 9001),.c (.ow 9002),.c (.sc (.int .i64 (k))),.c (.pt [] ((.prod (.int .i64) (.prod (.int .i64) (.prod (.int .i64) (.prod (.int .i64) (.prod (.row 2 (.int .i64)) (.int .i64))))))) (xs.getD k ((0,0,0,0,[],0):A1)) 0),.c (.ow 9003),.c (.sc (.int .i64 (k'.1))),zz,zz,zz,zz,zz,zz,zz,zz,zz,zz,zz,zz,zz,zz,zz,zz,zz,zz,zz,zz,zz,zz,zz,zz,zz,zz,zz,zz,zz,zz,zz,zz,zz,zz,zz,zz,zz,zz,zz,zz,zz,zz,zz,zz,zz,zz,zz,zz,zz,zz,zz,zz,zz,zz,zz,zz,zz,zz,zz,zz,zz,zz,zz,zz,zz,zz,zz,zz,zz,zz,zz,zz,zz,zz,zz],[(9001,.row 2 (.int .i64) (s) []),(9002,.row 2 (.int .i64) (o) []),(9003,.row 2 (.int .i64) (((o.take k'.1).filter fun y=>!decide (y=(xs.getD k ((0,0,0,0,[],0):A1)).2.2.2.1))) [])]⟩) (fun k'=>o.length - k'.1) ⟨0,by simp⟩ ?_ ?_
    ·
     refine oK ?_;simp (maxSteps:=2000000)only[go_sem];all_goals((repeat' refine And.intro ?_ ?_)<;>first|rfl|(congr 1;done)|(simp;done))
    rintro⟨m,hm⟩ K19 hL19
    have hfl:((o.take m).filter fun y=>!decide (y=(xs.getD k ((0,0,0,0,[],0):A1)).2.2.2.1)).length≤48:=Nat.le_trans (List.length_filter_le _ _) (by rw[List.length_take];omega)
    have hf8:(((o.take m).filter fun y=>!decide (y=(xs.getD k ((0,0,0,0,[],0):A1)).2.2.2.1)).length+1) * 8≤140737488355328:=by omega
    refine oS fun _ hK20=>?_;refine oS fun _ hK21=>?_;refine oW D9 ?_;simp only[go_sem];refine hK21 _ ?_;refine oC rfl ?_ ?_
    ·
     intro c3;refine A2 ?_;simp only[go_sem];refine hK20 _ ?_;refine oS fun _ hK22=>?_;refine A3 ?_;refine oS fun _ hK23=>?_
     refine oR D9
       [[],[],[0,1],[0,1,2],[],[4],[4,5],[4,5,6],[0,1,2,3,4,5,6,7]]
       [[],[],[],[],[],[],[],[],[]]
       [[],[],[],[],[],[],[],[],[]] (by kernel_rfl) (by kernel_rfl) (A7 (acc:=[]) ?_)
     simp (maxSteps:=2000000)only[go_sem];repeat(with_reducible refine oD ?_)
     refine hK23 _ ?_;refine oC rfl ?_ ?_
     ·
      intro c4;have hfx:=B51 (n:=(xs.getD k ((0,0,0,0,[],0):A1)).2.2.2.1) (show m < o.length by omega) (by first|assumption|omega)
      refine oW D9 ?_;simp (maxSteps:=2000000)only[List.nodup_cons,List.nodup_nil,List.not_mem_nil,not_false_eq_true,go_sem];repeat(with_reducible first|refine oA ?_|refine And.intro (by first|exact hf8|omega) ?_)
      refine hK22 _ ?_;refine oW D9 ?_;simp only[go_sem];first|(refine hL19 ⟨m+1,by omega⟩ _ (oK ?_) ?_)|(refine hL19 ⟨m+1,by omega⟩ _ (oK ?_) ?_)
      ·
       simp (maxSteps:=2000000)only[go_sem];all_goals((repeat' refine And.intro ?_ ?_)<;>first|rfl|exact wk (by omega)|(congr 1;done)|(congr 1;exact hfx)|exact hfx)
      ·
       first|(simp only[];omega)|omega|(simp;omega)
     intro c4;have hfx:=(B6i (n:=(xs.getD k ((0,0,0,0,[],0):A1)).2.2.2.1) (show m < o.length by omega) (by first|assumption|omega)).symm
     refine A2 ?_;simp only[go_sem];refine hK22 _ ?_;refine oW D9 ?_;simp only[go_sem];first|(refine hL19 ⟨m+1,by omega⟩ _ (oK ?_) ?_)|(refine hL19 ⟨m+1,by omega⟩ _ (oK ?_) ?_)
     ·
      simp (maxSteps:=2000000)only[go_sem];all_goals((repeat' refine And.intro ?_ ?_)<;>first|rfl|exact wk (by omega)|(congr 1;done)|(congr 1;exact hfx)|exact hfx)
     ·
      first|(simp only[];omega)|omega|(simp;omega)
    intro c3;have hfo:((o.take m).filter fun y=>!decide (y=(xs.getD k ((0,0,0,0,[],0):A1)).2.2.2.1))=o.filter fun y=>!decide (y=(xs.getD k ((0,0,0,0,[],0):A1)).2.2.2.1):=by rw[List.take_of_length_le (by omega)]
    refine B6 ?_;simp only[go_sem];refine hK17 _ ?_;refine oS fun _ hK24=>?_;refine oW D9 ?_;simp only[go_sem];refine hK24 _ ?_;refine B6 ?_;simp only[go_sem];refine hK9 _ ?_;refine oW D9 ?_;simp only[go_sem];first|(refine hL6 ⟨(k+1,s,o.filter fun y=>!decide (y=(xs.getD k ((0,0,0,0,[],0):A1)).2.2.2.1)),hp.store (by omega) h18 hco⟩ _ (oK ?_) ?_)|(refine hL6 ⟨(k+1,s++[(xs.getD k ((0,0,0,0,[],0):A1)).2.2.2.1],o++[(xs.getD k ((0,0,0,0,[],0):A1)).2.2.2.1]),hp.delay (by omega) h18 hcs h6⟩ _ (oK ?_) ?_)|(refine hL6 ⟨(k+1,s++[(xs.getD k ((0,0,0,0,[],0):A1)).2.2.2.1],o),hp.node (by omega) h18 hcs h6⟩ _ (oK ?_) ?_)
    ·
     simp (maxSteps:=2000000)only[go_sem];all_goals((repeat' refine And.intro ?_ ?_)<;>first|rfl|exact wk (by omega)|(congr 1;done)|(rw[hfo];done)|(congr 1;exact hfo)|exact hfo)
    ·
     first|(simp only[];omega)|omega|(simp;omega)
   intro c1;have h18:¬(xs.getD k ((0,0,0,0,[],0):A1)).1=18:=by first|assumption|omega
   refine A2 ?_;simp only[go_sem];refine hK11 _ ?_;refine oS fun _ hK25=>?_;refine oS fun _ hK26=>?_;refine oW D9 ?_;simp (maxSteps:=2000000)only[go_sem];repeat(with_reducible refine oA ?_)
   refine hK26 _ ?_;refine oC rfl ?_ ?_
   ·
    intro c5;have hcs:s.contains (xs.getD k ((0,0,0,0,[],0):A1)).2.2.2.1=true:=by first|assumption|(clear hK1 hK2 hK3 hK4 hK5 hL6 hK7 hK8 hK9 hK10 hK11 hK12 hK25 hK26;simp_all;done)
    refine oS fun _ hK27=>?_;refine oW D9 ?_;simp only[go_sem];refine hK27 _ ?_;refine A0 ?_;simp only[hres,go_sem];first|exact oF|(refine⟨?_,oF⟩;exact(hp.twice (by omega) h18 hcs).symm)
   intro c5;have hcs:s.contains (xs.getD k ((0,0,0,0,[],0):A1)).2.2.2.1=false:=by first|assumption|(clear hK1 hK2 hK3 hK4 hK5 hL6 hK7 hK8 hK9 hK10 hK11 hK12 hK25 hK26;simp_all;done)
   refine A2 ?_;simp only[go_sem];refine hK25 _ ?_;refine oS fun _ hK28=>?_;refine oW D9 ?_;simp (maxSteps:=2000000)only[List.nodup_cons,List.nodup_nil,List.not_mem_nil,not_false_eq_true,go_sem];repeat(with_reducible first|refine oA ?_|refine And.intro (by first|exact hs8|omega) ?_)
   refine hK28 _ ?_;refine oS fun _ hK29=>?_;refine oW D9 ?_;simp (maxSteps:=2000000)only[go_sem];repeat(with_reducible refine oA ?_)
   refine hK29 _ ?_;refine oC rfl ?_ ?_
   ·
    intro c6;have h6:(xs.getD k ((0,0,0,0,[],0):A1)).1=6:=by first|assumption|omega
    refine oW D9 ?_;simp (maxSteps:=2000000)only[List.nodup_cons,List.nodup_nil,List.not_mem_nil,not_false_eq_true,go_sem];repeat(with_reducible first|refine oA ?_|refine And.intro (by first|exact ho8|omega) ?_)
    refine hK9 _ ?_;refine oW D9 ?_;simp only[go_sem];first|(refine hL6 ⟨(k+1,s,o.filter fun y=>!decide (y=(xs.getD k ((0,0,0,0,[],0):A1)).2.2.2.1)),hp.store (by omega) h18 hco⟩ _ (oK ?_) ?_)|(refine hL6 ⟨(k+1,s++[(xs.getD k ((0,0,0,0,[],0):A1)).2.2.2.1],o++[(xs.getD k ((0,0,0,0,[],0):A1)).2.2.2.1]),hp.delay (by omega) h18 hcs h6⟩ _ (oK ?_) ?_)|(refine hL6 ⟨(k+1,s++[(xs.getD k ((0,0,0,0,[],0):A1)).2.2.2.1],o),hp.node (by omega) h18 hcs h6⟩ _ (oK ?_) ?_)
    ·
     simp (maxSteps:=2000000)only[go_sem];all_goals((repeat' refine And.intro ?_ ?_)<;>first|rfl|exact wk (by omega)|(congr 1;done)|(rw[hfo];done)|(congr 1;exact hfo)|exact hfo)
    ·
     first|(simp only[];omega)|omega|(simp;omega)
   intro c6;have h6:¬(xs.getD k ((0,0,0,0,[],0):A1)).1=6:=by first|assumption|omega
   refine A2 ?_;simp only[go_sem];refine hK9 _ ?_;refine oW D9 ?_;simp only[go_sem];first|(refine hL6 ⟨(k+1,s,o.filter fun y=>!decide (y=(xs.getD k ((0,0,0,0,[],0):A1)).2.2.2.1)),hp.store (by omega) h18 hco⟩ _ (oK ?_) ?_)|(refine hL6 ⟨(k+1,s++[(xs.getD k ((0,0,0,0,[],0):A1)).2.2.2.1],o++[(xs.getD k ((0,0,0,0,[],0):A1)).2.2.2.1]),hp.delay (by omega) h18 hcs h6⟩ _ (oK ?_) ?_)|(refine hL6 ⟨(k+1,s++[(xs.getD k ((0,0,0,0,[],0):A1)).2.2.2.1],o),hp.node (by omega) h18 hcs h6⟩ _ (oK ?_) ?_)
   ·
    simp (maxSteps:=2000000)only[go_sem];all_goals((repeat' refine And.intro ?_ ?_)<;>first|rfl|exact wk (by omega)|(congr 1;done)|(rw[hfo];done)|(congr 1;exact hfo)|exact hfo)
   ·
    first|(simp only[];omega)|omega|(simp;omega)
  intro c0;refine B6 ?_;simp only[go_sem];refine hK4 _ ?_;refine oS fun _ hK30=>?_;refine oW D9 ?_;simp only[go_sem];refine hK30 _ ?_;refine A0 ?_;simp only[hres,go_sem];first|exact oF|(refine⟨?_,oF⟩;rw[hp.fin (by omega)];first|rfl|exact decide_eq_decide.2 (by omega))
def A3A:G4:=fun f=>if f=67 then some (.p t7) else A63 f
theorem F3:B5 Tryz.prog A3A:=F8 B0E (B0 Tryz.func67 rfl (by decide)) D9
attribute [go_sem] A3A t7
end Go.Proofs.YtenjbehedcegdaaGreat
