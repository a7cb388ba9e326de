/-
  Texts of this claim, joined (part 29). No condition beyond those of the theorems.
-/
import Derived.Test.YtenjbehedcegdaaGreatQ15
import Derived.Test.YtenjbehedcegdaaGreatQ09
import Derived.Test.YtenjbehedcegdaaGreatQ08
import Derived.Test.YtenjbehedcegdaaGreatQ24
import Derived.Test.YtenjbehedcegdaaGreatQ25
import Derived.Test.YtenjbehedcegdaaGreatQ28
namespace Go.Proofs.YtenjbehedcegdaaGreat
open Go.RowKit
set_option linter.unusedSimpArgs false
set_option linter.unusedVariables false
set_option maxRecDepth 100000
set_option maxHeartbeats 16000000
def A8K:G4:=fun f=>match B1y f with
 | some k=>some k
 | none=>A0A f
theorem B1t:B5 Tryz.prog A8K:=W6 B4K A1m
attribute [go_sem] A8K T0
def A8i:G4:=fun f=>match A8K f with
 | some k=>some k
 | none=>A6a f
theorem H8:B5 Tryz.prog A8i:=W6 B1t B0l
attribute [go_sem] A8i T0
def r5:GCon where
  ps:=[.po 0,.ow 3]
  os:=[.box [.rd ((.prod (.int .i64) (.prod (.int .i64) (.prod (.row 26 (.row 2 (.int .i64))) (.prod (.row 64 (.prod (.int .i64) (.prod (.int .i64) (.prod (.int .i64) (.prod (.int .i64) (.prod (.row 2 (.int .i64)) (.int .i64))))))) (.row 2 (.int .i64))))))),.ow 1,.ow 2],.row 2 (.int .i64),.map ((.row 2 (.int .i64))),.row 2 (.int .i64)]
  c:=fun x=>O0 x.2.1.1=true∧I9 x.2.2.2.2.1=true∧(x.2.2.2.2.1.length:Int)=x.2.1.1.1∧RunOk x.2.1.1 (x.2.2.1,x.2.2.2.1)
  r:=fun _=>.tup []
  o:=fun x=>[(30,.box [.sc (.int .i64 (x.2.1.1.1)),.sc (.int .i64 (x.2.1.1.2.1)),.rd [] 26 ((.row 2 (.int .i64))) x.2.1.1.2.2.1,.rd [] 64 ((.prod (.int .i64) (.prod (.int .i64) (.prod (.int .i64) (.prod (.int .i64) (.prod (.row 2 (.int .i64)) (.int .i64))))))) x.2.1.1.2.2.2.1,.rd [] 2 (.int .i64) (x.2.1.1.2.2.2.2),.ow 31,.ow 32]),(31,.row 2 (.int .i64) ((A6i x.2.1.1 x.2.2.2.2.1 (x.2.2.1,x.2.2.2.1)).1) []),(32,.map ((.row 2 (.int .i64))) ((A6i x.2.1.1 x.2.2.2.2.1 (x.2.2.1,x.2.2.2.1)).2) []),(33,.row 2 (.int .i64) (x.2.2.2.2.1) [])]
  ok:=by
    rintro⟨⟨_,_,_⟩,⟨⟨⟨(gi:Int),(gr:Int),(ts:List (List Int)),(xs:List A1),(os:List Int)⟩,_⟩,(rg:List Int),(ss:List (List Int)),(ff:List Int),_⟩⟩
    exact⟨rfl,rfl,by decide⟩
theorem B1r:l6 Tryz.prog 31 r5:=by
  refine F1 Tryz.func31 rfl ?_
  have hres:Tryz.f31.results.toList=[]:=rfl
  rintro⟨⟨_,_,_⟩,⟨⟨⟨(gi:Int),(gr:Int),(ts:List (List Int)),(xs:List A1),(os:List Int)⟩,_⟩,(rg:List Int),(ss:List (List Int)),(ff:List Int),_⟩⟩ hc hL hO
  simp only[r5,go_sem] at hL
  simp only[r5,go_sem] at hO
  simp only[r5,St.init,St.initG,Tryz.ntmps31,go_sem] 
  obtain⟨hP,hff,hfl,hR⟩:=(show O0 (gi,gr,ts,xs,os)=true∧I9 ff=true∧(ff.length:Int)=(gi,gr,ts,xs,os).1∧RunOk (gi,gr,ts,xs,os) (rg,ss) from hc)
  have hG:=A0R hP
  have hxl:xs.length≤48:=hG.cl
  have hr0:0≤gr:=hG.r0
  have hr24:gr≤24:=hG.r24
  have hx0:x0=((0,0,0,0,[],0):A1):=rfl
  have hz:[Value.slice none 0 0]=F2 ((.row 2 (.int .i64)))∧A5B Tryz.prog 26=true:=⟨rfl,by kernel_rfl⟩
  refine oS fun _ hK1=>?_;refine oW H8 ?_;simp (maxSteps:=2000000)only[go_sem];repeat(with_reducible refine oA ?_)
  refine hK1 _ ?_;refine A3 ?_;refine A8 (ι:={ k:Nat // k≤xs.length }) (fun k=>⟨[.c (.po 30 0),.c (.ow 33),zz,zz,zz,zz,zz,zz,zz,zz,zz,.c (.rd [] 64 ((.prod (.int .i64) (.prod (.int .i64) (.prod (.int .i64) (.prod (.int .i64) (.prod (.row 2 (.int .i64)) (.int .i64))))))) (xs)),.c (.sc (.int .i64 (xs.length))),.c (.sc (.int .i64 (k.1))),zz,zz,zz,zz,zz,zz,zz,zz,zz,zz,zz,zz,zz,zz,zz,zz,zz,zz,zz,zz,zz,zz,zz,zz,zz,zz,zz,zz,zz,zz,zz,zz,zz,zz,zz,zz,zz,zz,zz,zz,zz,zz,zz,zz,zz,zz,zz,zz,zz,zz,zz,zz,zz,zz,zz,zz,zz,zz,zz,zz,zz,zz,zz,zz,zz,zz,zz,zz,zz,zz,zz,zz,zz,zz,zz,zz,zz,zz,zz,zz,zz,zz,zz,zz,zz,zz,zz,zz,zz,zz,zz,zz,zz,zz],[(30,.box [.sc (.int .i64 (gi)),.sc (.int .i64 (gr)),.rd [] 26 ((.row 2 (.int .i64))) ts,.rd [] 64 ((.prod (.int .i64) (.prod (.int .i64) (.prod (.int .i64) (.prod (.int .i64) (.prod (.row 2 (.int .i64)) (.int .i64))))))) xs,.rd [] 2 (.int .i64) (os),.ow 31,.ow 32]),(31,.row 2 (.int .i64) ((A1A (gi,gr,ts,xs,os) ff (rg,ss) k.1).1) []),(32,.map ((.row 2 (.int .i64))) ((A1A (gi,gr,ts,xs,os) ff (rg,ss) k.1).2) []),(33,.row 2 (.int .i64) (ff) [])]⟩) (fun k=>xs.length - k.1) ⟨0,by simp⟩ ?_ ?_
  ·
   refine oK ?_;simp (maxSteps:=2000000)only[go_sem];all_goals((repeat' refine And.intro ?_ ?_)<;>first|rfl|(congr 1;done)|(simp;done))
  rintro⟨k,hk⟩ K2 hL2
  have hK:RunOk (gi,gr,ts,xs,os) (A1A (gi,gr,ts,xs,os) ff (rg,ss) k):=A58 hG hff hR k hk
  rcases hst0:(A1A (gi,gr,ts,xs,os) ff (rg,ss) k) with⟨r,B⟩
  rw[hst0] at hK;have hrl:r.length=gr.toNat:=hK.rl
  have hbl:B.length=24:=hK.sl
  have hnx:(A1A (gi,gr,ts,xs,os) ff (rg,ss) (k+1))=y2 ts ff (xs.getD k ((0,0,0,0,[],0):A1)) (r,B):=by show y2 ts ff (xs.getD k ((0,0,0,0,[],0):A1)) (A1A _ ff (rg,ss) k)=_;rw[hst0]
  refine oS fun _ hK3=>?_;refine oW H8 ?_;simp only[go_sem];refine hK3 _ ?_;refine oS fun _ hK4=>?_;refine oC rfl ?_ ?_
  ·
   intro c0;have hk':k < (gi,gr,ts,xs,os).2.2.2.1.length:=by show k < xs.length;omega
   have hins:=(hG.ins k hk').1
   have hip:=G7 hins
   have hnd:0≤(xs.getD k ((0,0,0,0,[],0):A1)).2.2.2.1∧(xs.getD k ((0,0,0,0,[],0):A1)).2.2.2.1≤23:=hip.1
   have hnb:0≤(xs.getD k ((0,0,0,0,[],0):A1)).2.2.2.1∧(xs.getD k ((0,0,0,0,[],0):A1)).2.2.2.1 < (B.length:Int):=by omega
   refine A2 ?_;simp only[go_sem];refine hK4 _ ?_;refine oS fun _ hK5=>?_;refine A3 ?_;refine oS fun _ hK6=>?_;refine oW H8 ?_;simp only[go_sem];repeat(with_reducible refine oA ?_)
   refine hK6 _ ?_;refine oS fun _ hK7=>?_
   refine oR H8
     [[],[0],[0,1],[0,1,2],[],[4],[0,1,2,3,4,5],[0,1,2,3,4,5,6]]
     [[],[],[],[],[],[],[],[]]
     [[],[],[],[],[],[],[],[]] (by kernel_rfl) (by kernel_rfl) (A7 (acc:=[]) ?_)
   simp (maxSteps:=2000000)only[go_sem];repeat(with_reducible first|refine oD ?_|refine And.intro (by first|exact⟨hz,hnb⟩|exact hnb) ?_)
   refine hK7 _ ?_;refine oS fun _ hK8=>?_;refine oW H8 ?_;simp only[go_sem];repeat(with_reducible refine oA ?_)
   refine hK8 _ ?_;refine A3 ?_;refine oS fun _ hK9=>?_;refine oW H8 ?_;simp only[go_sem];refine hK9 _ ?_;refine oC rfl ?_ ?_
   ·
    intro c1;have h18:(xs.getD k ((0,0,0,0,[],0):A1)).1=18:=by first|assumption|omega
    have hsto:1≤(B.getD (Int.toNat (xs.getD k ((0,0,0,0,[],0):A1)).2.2.2.1) []).length∧(B.getD (Int.toNat (xs.getD k ((0,0,0,0,[],0):A1)).2.2.2.1) []).length≤16:=RunOk.sto hG hK hk' h18
    have hfl1:(xs.getD k ((0,0,0,0,[],0):A1)).2.2.2.2.1.length=1:=hip.2.2.1 h18
    have hq2:(0:Int)≤0∧(0:Int) < ((xs.getD k ((0,0,0,0,[],0):A1)).2.2.2.2.1.length:Int):=by omega
    have hf0:=O1 hip.2.1 (C6 (d:=0) (i:=0) (by show 0 < (xs.getD k ((0,0,0,0,[],0):A1)).2.2.2.2.1.length;omega))
    have hq5:0≤(xs.getD k ((0,0,0,0,[],0):A1)).2.2.2.2.1.getD 0 0∧(xs.getD k ((0,0,0,0,[],0):A1)).2.2.2.2.1.getD 0 0 < (r.length:Int):=by
      have h1:0≤(xs.getD k ((0,0,0,0,[],0):A1)).2.2.2.2.1.getD 0 0∧(xs.getD k ((0,0,0,0,[],0):A1)).2.2.2.2.1.getD 0 0≤gr - 1:=hf0
      omega
    have hdr:((B.getD (Int.toNat (xs.getD k ((0,0,0,0,[],0):A1)).2.2.2.1) []).drop 1).length≤16:=by rw[List.length_drop];omega
    have hq1:((B.getD (Int.toNat (xs.getD k ((0,0,0,0,[],0):A1)).2.2.2.1) []).drop 1).length≤1099511627776:=by omega
    have hq4:(((B.getD (Int.toNat (xs.getD k ((0,0,0,0,[],0):A1)).2.2.2.1) []).drop 1).length+1) * 8≤140737488355328:=by omega
    have hnx':=hnx.trans (B7P h18)
    refine oR H8
      [[],[0],[0,1],[0,1,2],[],[4],[],[6],[6,7],[],[9],[9,10],[9,10,11],[],[13],[13,14],[13,14,15],[9,10,11,12,13,14,15,16],[9,10,11,12,13,14,15,16,17],[9,10,11,12,13,14,15,16,17,18],[6,7,8,9,10,11,12,13,14,15,16,17,18,19],[0,1,2,3,4,5,6,7,8,9,10,11,12,13,14,15,16,17,18,19,20]]
      [[1188,1189,1190,1191,1192,1193,1194,1195,1196,1197,1198,1199,1200,1201,1202,1203,1364,1380],[1188,1189,1190,1191,1192,1193,1194,1195,1196,1197,1198,1199,1200,1201,1202,1203,1364,1380],[1188,1189,1190,1191,1192,1193,1194,1195,1196,1197,1198,1199,1200,1201,1202,1203,1364,1380],[1188,1189,1190,1191,1192,1193,1194,1195,1196,1197,1198,1199,1200,1201,1202,1203,1364,1380],[1188,1189,1190,1191,1192,1193,1194,1195,1196,1197,1198,1199,1200,1201,1202,1203,1364,1380],[1188,1189,1190,1191,1192,1193,1194,1195,1196,1197,1198,1199,1200,1201,1202,1203,1364,1380],[1364],[1364],[1364],[1188,1189,1190,1191,1192,1193,1194,1195,1196,1197,1198,1199,1200,1201,1202,1203],[1188,1189,1190,1191,1192,1193,1194,1195,1196,1197,1198,1199,1200,1201,1202,1203],[1188,1189,1190,1191,1192,1193,1194,1195,1196,1197,1198,1199,1200,1201,1202,1203],[1188,1189,1190,1191,1192,1193,1194,1195,1196,1197,1198,1199,1200,1201,1202,1203],[1188,1189,1190,1191,1192,1193,1194,1195,1196,1197,1198,1199,1200,1201,1202,1203],[1188,1189,1190,1191,1192,1193,1194,1195,1196,1197,1198,1199,1200,1201,1202,1203],[1188,1189,1190,1191,1192,1193,1194,1195,1196,1197,1198,1199,1200,1201,1202,1203],[1188,1189,1190,1191,1192,1193,1194,1195,1196,1197,1198,1199,1200,1201,1202,1203],[1188,1189,1190,1191,1192,1193,1194,1195,1196,1197,1198,1199,1200,1201,1202,1203],[1188,1189,1190,1191,1192,1193,1194,1195,1196,1197,1198,1199,1200,1201,1202,1203],[1188,1189,1190,1191,1192,1193,1194,1195,1196,1197,1198,1199,1200,1201,1202,1203],[],[]]
      [[],[],[],[],[],[],[],[],[1188,1189,1190,1191,1192,1193,1194,1195,1196,1197,1198,1199,1200,1201,1202,1203],[],[],[],[],[],[],[],[],[],[],[1364],[1188,1189,1190,1191,1192,1193,1194,1195,1196,1197,1198,1199,1200,1201,1202,1203,1364,1380],[]] (by kernel_rfl) (by kernel_rfl) (A7 (acc:=[]) ?_)
    simp (maxSteps:=2000000)only[List.nodup_cons,List.nodup_nil,List.not_mem_nil,not_false_eq_true,List.take_length,go_sem];repeat(with_reducible first|refine oD ?_|refine And.intro (by first|exact hnb|exact hq1|exact hq4|exact hq5|exact hq2|omega) ?_)
    refine hK5 _ ?_;refine oW H8 ?_;simp only[go_sem];refine hL2 ⟨k+1,by omega⟩ _ (oK ?_) ?_
    ·
     simp (maxSteps:=2000000)only[go_sem];all_goals(try rw[hnx'])
     all_goals((repeat' refine And.intro ?_ ?_)<;>first|rfl|exact wk (by omega)|(congr 1;done))
    ·
     first|(simp only[];omega)|omega|(simp;omega)
   intro c1;have h18:¬(xs.getD k ((0,0,0,0,[],0):A1)).1=18:=by first|assumption|omega
   refine oS fun _ hK10=>?_;refine oW H8 ?_;simp only[go_sem];refine hK10 _ ?_;refine oC rfl ?_ ?_
   ·
    intro c2;have h6:(xs.getD k ((0,0,0,0,[],0):A1)).1=6:=by first|assumption|omega
    have hdd:1≤(B.getD (Int.toNat (xs.getD k ((0,0,0,0,[],0):A1)).2.2.2.1) []).length∧(B.getD (Int.toNat (xs.getD k ((0,0,0,0,[],0):A1)).2.2.2.1) []).length≤16:=RunOk.dly hG hK hk' h6
    have hd5:(0:Int)≤0∧(0:Int) < ((B.getD (Int.toNat (xs.getD k ((0,0,0,0,[],0):A1)).2.2.2.1) []).length:Int):=by omega
    have htr:0≤(xs.getD k ((0,0,0,0,[],0):A1)).2.2.2.2.2∧(xs.getD k ((0,0,0,0,[],0):A1)).2.2.2.2.2 < gr:=hip.2.2.2.1 h18
    have hd6:0≤(xs.getD k ((0,0,0,0,[],0):A1)).2.2.2.2.2∧(xs.getD k ((0,0,0,0,[],0):A1)).2.2.2.2.2 < (r.length:Int):=by omega
    have hnx':=hnx.trans (B9J h6)
    refine oR H8
      [[],[0],[0,1],[0,1,2],[],[4],[],[6],[6,7],[0,1,2,3,4,5,6,7,8],[0,1,2,3,4,5,6,7,8,9]]
      [[],[],[],[],[],[],[],[],[],[],[]]
      [[],[],[],[],[],[],[],[],[],[],[]] (by kernel_rfl) (by kernel_rfl) (A7 (acc:=[]) ?_)
    simp (maxSteps:=2000000)only[go_sem];repeat(with_reducible first|refine oD ?_|refine And.intro (by first|exact hd6|exact hd5|omega) ?_)
    refine hK5 _ ?_;refine oW H8 ?_;simp only[go_sem];refine hL2 ⟨k+1,by omega⟩ _ (oK ?_) ?_
    ·
     simp (maxSteps:=2000000)only[go_sem];all_goals(try rw[hnx'])
     all_goals((repeat' refine And.intro ?_ ?_)<;>first|rfl|exact wk (by omega)|(congr 1;done))
    ·
     first|(simp only[];omega)|omega|(simp;omega)
   intro c2;have h6:¬(xs.getD k ((0,0,0,0,[],0):A1)).1=6:=by first|assumption|omega
   refine oS fun _ hK11=>?_;refine oW H8 ?_;simp only[go_sem];refine hK11 _ ?_;refine oC rfl ?_ ?_
   ·
    intro c3;have h1:(xs.getD k ((0,0,0,0,[],0):A1)).1=1:=by first|assumption|omega
    have hi0:=B7N hins h1
    have hi3:(xs.getD k ((0,0,0,0,[],0):A1)).2.1 < gi:=(hG.ins k hk').2 h1
    have hi1:0≤(xs.getD k ((0,0,0,0,[],0):A1)).2.1∧(xs.getD k ((0,0,0,0,[],0):A1)).2.1 < (ff.length:Int):=⟨hi0,by omega⟩
    have htr:0≤(xs.getD k ((0,0,0,0,[],0):A1)).2.2.2.2.2∧(xs.getD k ((0,0,0,0,[],0):A1)).2.2.2.2.2 < gr:=hip.2.2.2.1 h18
    have hd6:0≤(xs.getD k ((0,0,0,0,[],0):A1)).2.2.2.2.2∧(xs.getD k ((0,0,0,0,[],0):A1)).2.2.2.2.2 < (r.length:Int):=by omega
    have hnx':=hnx.trans (B8j h1 (RunOk.inp hK hk' h1) (by show (xs.getD k ((0,0,0,0,[],0):A1)).2.2.2.1.toNat < B.length;omega))
    refine oR H8
      [[],[0],[0,1],[0,1,2],[],[4],[],[],[7],[6,7,8],[6,7,8,9],[0,1,2,3,4,5,6,7,8,9,10],[0,1,2,3,4,5,6,7,8,9,10,11]]
      [[],[],[],[],[],[],[],[],[],[],[],[],[]]
      [[],[],[],[],[],[],[],[],[],[],[],[],[]] (by kernel_rfl) (by kernel_rfl) (A7 (acc:=[]) ?_)
    simp (maxSteps:=2000000)only[go_sem];repeat(with_reducible first|refine oD ?_|refine And.intro (by first|exact hd6|exact hi1|omega) ?_)
    refine hK5 _ ?_;refine oW H8 ?_;simp only[go_sem];refine hL2 ⟨k+1,by omega⟩ _ (oK ?_) ?_
    ·
     simp (maxSteps:=2000000)only[go_sem];all_goals(try rw[hnx'])
     all_goals((repeat' refine And.intro ?_ ?_)<;>first|rfl|exact wk (by omega)|(congr 1;done))
    ·
     first|(simp only[];omega)|omega|(simp;omega)
   intro c3;have h1:¬(xs.getD k ((0,0,0,0,[],0):A1)).1=1:=by first|assumption|omega
   have htr:0≤(xs.getD k ((0,0,0,0,[],0):A1)).2.2.2.2.2∧(xs.getD k ((0,0,0,0,[],0):A1)).2.2.2.2.2 < gr:=hip.2.2.2.1 h18
   have hd6:0≤(xs.getD k ((0,0,0,0,[],0):A1)).2.2.2.2.2∧(xs.getD k ((0,0,0,0,[],0):A1)).2.2.2.2.2 < (r.length:Int):=by omega
   have hst:X2 (H2 (xs.getD k ((0,0,0,0,[],0):A1))) ts ((xs.getD k ((0,0,0,0,[],0):A1)).2.2.2.2.1.map fun q=>r.getD (Int.toNat q) 0) (B.getD (Int.toNat (xs.getD k ((0,0,0,0,[],0):A1)).2.2.2.1) []):=RunOk.stp hG hK hk' hff h18 h6 h1
   have hst2:X2 ((H2 (xs.getD k ((0,0,0,0,[],0):A1))).1,(H2 (xs.getD k ((0,0,0,0,[],0):A1))).2.1,(H2 (xs.getD k ((0,0,0,0,[],0):A1))).2.2.1,(H2 (xs.getD k ((0,0,0,0,[],0):A1))).2.2.2) ts ((xs.getD k ((0,0,0,0,[],0):A1)).2.2.2.2.1.map fun q=>r.getD (Int.toNat q) 0) (B.getD (Int.toNat (xs.getD k ((0,0,0,0,[],0):A1)).2.2.2.1) []):=hst
   have hmc:((xs.getD k ((0,0,0,0,[],0):A1)).2.2.2.2.1).length≤1000∧N2 (r.length:Int) ((xs.getD k ((0,0,0,0,[],0):A1)).2.2.2.2.1)=true:=⟨Nat.le_trans (A9r hins) (by decide),by rw[hrl,Int.toNat_of_nonneg hr0];exact hip.2.1⟩
   have hnx':=hnx.trans (B92 h18 h6 h1)
   refine oR H8
     [[],[0],[0,1],[0,1,2],[],[4],[],[6],[6,7],[6,7,8],[],[10],[],[12],[],[14],[14,15],[14,15,16],[14,15,16,17],[],[19],[],[21],[21,22],[21,22,23],[12,13,19,20,21,22,23,24],[],[12,13,14,15,16,17,18,19,20,21,22,23,24,25,26],[12,13,14,15,16,17,18,19,20,21,22,23,24,25,26,27],[12,13,14,15,16,17,18,19,20,21,22,23,24,25,26,27,28],[12,13,14,15,16,17,18,19,20,21,22,23,24,25,26,27,28],[0,1,2,3,4,5,6,7,8,9,12,13,14,15,16,17,18,19,20,21,22,23,24,25,26,27,28,29],[0,1,2,3,4,5,6,7,8,9,12,13,14,15,16,17,18,19,20,21,22,23,24,25,26,27,28,29,31],[0,1,2,3,4,5,6,7,8,9,10,11,12,13,14,15,16,17,18,19,20,21,22,23,24,25,26,27,28,29,30,31,32]]
     [[740,741,742,743,744,745,746,747,748,749,750,751,752,753,754,755,932,933,934,935,936,937,938,939,940,941,942,943,944,945,946,947,964,965,966,967,968,969,970,971,972,973,974,975,976,977,978,979],[740,741,742,743,744,745,746,747,748,749,750,751,752,753,754,755,932,933,934,935,936,937,938,939,940,941,942,943,944,945,946,947,964,965,966,967,968,969,970,971,972,973,974,975,976,977,978,979],[740,741,742,743,744,745,746,747,748,749,750,751,752,753,754,755,932,933,934,935,936,937,938,939,940,941,942,943,944,945,946,947,964,965,966,967,968,969,970,971,972,973,974,975,976,977,978,979],[740,741,742,743,744,745,746,747,748,749,750,751,752,753,754,755,932,933,934,935,936,937,938,939,940,941,942,943,944,945,946,947,964,965,966,967,968,969,970,971,972,973,974,975,976,977,978,979],[740,741,742,743,744,745,746,747,748,749,750,751,752,753,754,755,932,933,934,935,936,937,938,939,940,941,942,943,944,945,946,947,964,965,966,967,968,969,970,971,972,973,974,975,976,977,978,979],[740,741,742,743,744,745,746,747,748,749,750,751,752,753,754,755,932,933,934,935,936,937,938,939,940,941,942,943,944,945,946,947,964,965,966,967,968,969,970,971,972,973,974,975,976,977,978,979],[740,741,742,743,744,745,746,747,748,749,750,751,752,753,754,755,932,933,934,935,936,937,938,939,940,941,942,943,944,945,946,947,964,965,966,967,968,969,970,971,972,973,974,975,976,977,978,979],[740,741,742,743,744,745,746,747,748,749,750,751,752,753,754,755,932,933,934,935,936,937,938,939,940,941,942,943,944,945,946,947,964,965,966,967,968,969,970,971,972,973,974,975,976,977,978,979],[740,741,742,743,744,745,746,747,748,749,750,751,752,753,754,755,932,933,934,935,936,937,938,939,940,941,942,943,944,945,946,947,964,965,966,967,968,969,970,971,972,973,974,975,976,977,978,979],[740,741,742,743,744,745,746,747,748,749,750,751,752,753,754,755,932,933,934,935,936,937,938,939,940,941,942,943,944,945,946,947,964,965,966,967,968,969,970,971,972,973,974,975,976,977,978,979],[31,740,741,742,743,744,745,746,747,748,749,750,751,752,753,754,755,932,933,934,935,936,937,938,939,940,941,942,943,944,945,946,947,964,965,966,967,968,969,970,971,972,973,974,975,976,977,978,979],[31,740,741,742,743,744,745,746,747,748,749,750,751,752,753,754,755,932,933,934,935,936,937,938,939,940,941,942,943,944,945,946,947,964,965,966,967,968,969,970,971,972,973,974,975,976,977,978,979],[],[],[740,741,742,743,744,745,746,747,748,749,750,751,752,753,754,755,932,933,934,935,936,937,938,939,940,941,942,943,944,945,946,947],[740,741,742,743,744,745,746,747,748,749,750,751,752,753,754,755,932,933,934,935,936,937,938,939,940,941,942,943,944,945,946,947],[740,741,742,743,744,745,746,747,748,749,750,751,752,753,754,755,932,933,934,935,936,937,938,939,940,941,942,943,944,945,946,947],[740,741,742,743,744,745,746,747,748,749,750,751,752,753,754,755,932,933,934,935,936,937,938,939,940,941,942,943,944,945,946,947],[740,741,742,743,744,745,746,747,748,749,750,751,752,753,754,755,932,933,934,935,936,937,938,939,940,941,942,943,944,945,946,947],[740,741,742,743,744,745,746,747,748,749,750,751,752,753,754,755],[740,741,742,743,744,745,746,747,748,749,750,751,752,753,754,755],[740,741,742,743,744,745,746,747,748,749,750,751,752,753,754,755],[740,741,742,743,744,745,746,747,748,749,750,751,752,753,754,755],[740,741,742,743,744,745,746,747,748,749,750,751,752,753,754,755],[740,741,742,743,744,745,746,747,748,749,750,751,752,753,754,755],[],[740,741,742,743,744,745,746,747,748,749,750,751,752,753,754,755,932,933,934,935,936,937,938,939,940,941,942,943,944,945,946,947],[],[],[],[31],[],[],[]]
     [[],[],[],[],[],[],[],[],[],[],[],[],[],[740,741,742,743,744,745,746,747,748,749,750,751,752,753,754,755],[],[],[],[],[],[],[],[],[],[],[],[932,933,934,935,936,937,938,939,940,941,942,943,944,945,946,947],[],[964,965,966,967,968,969,970,971,972,973,974,975,976,977,978,979],[],[],[],[],[31],[]] (by kernel_rfl) (by kernel_rfl) (A7 (acc:=[]) ?_)
   simp (maxSteps:=2000000)only[List.nodup_cons,List.nodup_nil,List.not_mem_nil,not_false_eq_true,go_sem];repeat(with_reducible first|refine oD ?_|refine And.intro (by first|exact hmc|exact hst2|exact hd6|exact hnb|omega) ?_)
   refine hK5 _ ?_;refine oW H8 ?_;simp only[go_sem];refine hL2 ⟨k+1,by omega⟩ _ (oK ?_) ?_
   ·
    simp (maxSteps:=2000000)only[go_sem];all_goals(try rw[hnx'])
    all_goals((repeat' refine And.intro ?_ ?_)<;>first|rfl|exact wk (by omega)|(congr 1;done))
   ·
    first|(simp only[];omega)|omega|(simp;omega)
  intro c0;have hk3:k=xs.length:=by omega
  refine B6 ?_;simp only[go_sem];simp (maxSteps:=2000000)only[hres,go_sem]
  first
   | exact oG
   | refine ⟨oG, ?_⟩
     clear hK1 hL2 hK3 hK4;subst hk3;have hrf:A6i (gi,gr,ts,xs,os) ff (rg,ss)=(r,B):=hst0
     rw[hrf]
     (repeat' refine And.intro ?_ ?_)<;>first|rfl|(congr 1;done)
def A4B:G4:=fun f=>if f=31 then some (.g r5) else A8i f
theorem A80:B5 Tryz.prog A4B:=A0M B1r (B0 Tryz.func31 rfl (by decide)) H8
attribute [go_sem] A4B r5
end Go.Proofs.YtenjbehedcegdaaGreat
