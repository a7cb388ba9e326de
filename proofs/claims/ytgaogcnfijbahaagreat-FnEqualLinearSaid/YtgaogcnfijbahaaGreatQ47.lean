/-
  Texts of this claim, joined (part 47). No condition beyond those of the theorems.
-/
import Derived.Test.YtgaogcnfijbahaaGreatQ40
import Derived.Test.YtgaogcnfijbahaaGreatQ29
namespace Go.Proofs.YtgaogcnfijbahaaGreat
open Go.RowKit
set_option linter.unusedSimpArgs false
set_option linter.unusedVariables false
set_option maxRecDepth 100000
set_option maxHeartbeats 16000000
def B3c:E4:=fun f=>match B39 f with
 | some k=>some k
 | none=>A2E f
theorem I6:B4 Tryz.prog B3c:=N2 B1O A2N
attribute [go_sem] B3c T0
def A1o:GCon where
  ps:=[.po 0,.ow 4]
  os:=[.box [.rd ((.prod (.int .i64) (.prod (.row 26 (.row 2 (.int .i64))) (.prod (.row 95 (.prod (.int .i64) (.prod (.int .i64) (.prod (.int .i64) (.row 2 (.int .i64)))))) (.row 2 (.int .i64)))))),.ow 1,.ow 2,.ow 3],.row 2 (.int .i64),.row 2 (.int .i64),.tree 26 (.row 2 (.int .i64)),.row 2 (.int .i64)]
  c:=fun x=>B9 x.2.1.1=true∧x.2.2.1=C6 x.2.1.1.2.2.1∧R6 x.2.1.1 x.2.2.2.1∧U3 x.2.1.1 x.2.2.2.2.1∧(x.2.2.2.2.2.1.length:Int)=x.2.1.1.1∧D9 x.2.2.2.2.2.1=true
  r:=fun _=>.tup []
  o:=fun x=>[(30,.box [.sc (.int .i64 (x.2.1.1.1)),.rd [] 26 ((.row 2 (.int .i64))) (x.2.1.1.2.1),.rd [] 95 ((.prod (.int .i64) (.prod (.int .i64) (.prod (.int .i64) (.row 2 (.int .i64)))))) (x.2.1.1.2.2.1),.rd [] 2 (.int .i64) (x.2.1.1.2.2.2),.ow 31,.ow 32,.ow 33]),(31,.row 2 (.int .i64) (x.2.2.1) []),(32,.row 2 (.int .i64) ((A7v x.2.1.1 x.2.2.2.1 x.2.2.2.2.1 x.2.2.2.2.2.1).1) []),(33,.tree 26 (.row 2 (.int .i64)) ((A7v x.2.1.1 x.2.2.2.1 x.2.2.2.2.1 x.2.2.2.2.2.1).2) none),(34,.row 2 (.int .i64) (x.2.2.2.2.2.1) [])]
  ok:=by
    rintro⟨⟨_,_,_⟩,⟨⟨⟨(pi:Int),(ts:List (List Int)),(ns:List A6),(os:List Int)⟩,_⟩,(oo:List Int),(vv:List Int),(cc:List (List Int)),(ff:List Int),_⟩⟩
    exact⟨rfl,rfl,by decide⟩
theorem C02:Z2 Tryz.prog 86 A1o:=by
  refine E1 Tryz.func86 rfl ?_
  have hres:Tryz.f86.results.toList=[]:=rfl
  rintro⟨⟨_,_,_⟩,⟨⟨⟨(pi:Int),(ts:List (List Int)),(ns:List A6),(os:List Int)⟩,_⟩,(oo:List Int),(vv:List Int),(cc:List (List Int)),(ff:List Int),_⟩⟩ hc hL hO
  simp only[A1o,go_sem] at hL
  simp only[A1o,go_sem] at hO
  simp only[A1o,St.init,St.initG,Tryz.ntmps86,go_sem] 
  obtain⟨hP,hoo,hvv,hcc,hfl,hff⟩:=(show B9 (pi,ts,ns,os)=true∧oo=C6 (pi,ts,ns,os).2.2.1∧R6 (pi,ts,ns,os) vv∧U3 (pi,ts,ns,os) cc∧(ff.length:Int)=(pi,ts,ns,os).1∧D9 ff=true from hc)
  have hoo:oo=C6 ns:=hoo
  subst hoo;obtain⟨hF,hol⟩:=B8 hP
  have hol:(C6 ns).length=ns.length:=hol
  have hn24:ns.length≤24:=(A8 hF).1
  refine oS fun _ hK1=>?_;refine oS fun _ hK2=>?_;refine oW I6 ?_;simp (maxSteps:=2000000)only[go_sem];repeat(with_reducible refine oA ?_)
  refine hK2 _ ?_;refine A1 ?_;refine A7 (ι:={ k:Nat // k≤(C6 ns).length }) (fun k=>⟨[.c (.po 30 0),.c (.ow 34),zz,zz,zz,zz,zz,zz,zz,zz,zz,zz,.c (.ow 31),.c (.sc (.int .i64 ((C6 ns).length))),.c (.sc (.int .i64 (k.1))),zz,zz,zz,zz,zz,zz,zz,zz,zz,zz,zz,zz,zz,zz,zz,zz,zz,zz,zz,zz,zz,zz,zz,zz,zz,zz,zz,zz,zz,zz,zz,zz,zz,zz,zz,zz,zz,zz,zz,zz,zz,zz,zz,zz,zz,zz,zz,zz,zz,zz,zz,zz,zz,zz,zz,zz,zz,zz,zz,zz,zz,zz,zz,zz,zz,zz,zz,zz,zz,zz,zz,zz,zz,zz,zz,zz,zz,zz,zz,zz,zz,zz,zz,zz,zz,zz,zz,zz,zz,zz,zz,zz,zz,zz,zz,zz,zz,zz,zz,zz],[(30,.box [.sc (.int .i64 (pi)),.rd [] 26 ((.row 2 (.int .i64))) (ts),.rd [] 95 ((.prod (.int .i64) (.prod (.int .i64) (.prod (.int .i64) (.row 2 (.int .i64)))))) (ns),.rd [] 2 (.int .i64) (os),.ow 31,.ow 32,.ow 33]),(31,.row 2 (.int .i64) (C6 ns) []),(32,.row 2 (.int .i64) ((D2 (pi,ts,ns,os) ff (vv,cc) ((C6 ns).take k.1)).1) []),(33,.tree 26 (.row 2 (.int .i64)) ((D2 (pi,ts,ns,os) ff (vv,cc) ((C6 ns).take k.1)).2) none),(34,.row 2 (.int .i64) (ff) [])]⟩) (fun k=>(C6 ns).length - k.1) ⟨0,by simp⟩ ?_ ?_
  ·
   refine oK ?_;simp (maxSteps:=2000000)only[go_sem];all_goals(first|rfl|((repeat' refine And.intro ?_ ?_)<;>first|rfl|simp))
  rintro⟨k,hk⟩ K3 hL3
  obtain⟨hkv,hks⟩:=B3J (p:=(pi,ts,ns,os)) (s:=cc) (fr:=ff) (v0:=vv) hF hcc hff hvv k hk
  have hvl:((D2 (pi,ts,ns,os) ff (vv,cc) ((C6 ns).take k)).1).length=ns.length:=hkv.1
  have hsl:((D2 (pi,ts,ns,os) ff (vv,cc) ((C6 ns).take k)).2).length=ns.length:=hks.1
  have hgd:k < (C6 ns).length→∃i0:Nat,(C6 ns).getD k 0=(i0:Int)∧i0 < ns.length:=fun h=>by obtain⟨q,h1,h2,_⟩:=Y5 ns k h;exact⟨q,h1,h2⟩
  have hnx:k < (C6 ns).length→D2 (pi,ts,ns,os) ff (vv,cc) ((C6 ns).take (k+1))=O7 (pi,ts,ns,os) ff (D2 (pi,ts,ns,os) ff (vv,cc) ((C6 ns).take k)) ((C6 ns).getD k 0):=fun h=>A2o h
  refine oS fun _ hK4=>?_;refine oW I6 ?_;simp only[go_sem];refine hK4 _ ?_;refine oS fun _ hK5=>?_;refine oC rfl ?_ ?_
  ·
   intro c0;obtain⟨i0,hi,hlt⟩:=hgd (by omega)
   have hst0:=s8 (p:=(pi,ts,ns,os)) hF hks hff hkv.2 (i:=i0) hlt
   have hst:m6 ((ns.getD i0 (0,0,0,[])).1,(ns.getD i0 (0,0,0,[])).2.1,(ns.getD i0 (0,0,0,[])).2.2.1,(ns.getD i0 (0,0,0,[])).2.2.2) ts (Q8 ((ns.getD i0 (0,0,0,[])).1,(ns.getD i0 (0,0,0,[])).2.1,(ns.getD i0 (0,0,0,[])).2.2.1,(ns.getD i0 (0,0,0,[])).2.2.2) ff (D2 (pi,ts,ns,os) ff (vv,cc) ((C6 ns).take k)).1) (((D2 (pi,ts,ns,os) ff (vv,cc) ((C6 ns).take k)).2).getD i0 []):=hst0.c
   have hic:A9i ((ns.getD i0 (0,0,0,[])).1,(ns.getD i0 (0,0,0,[])).2.1,(ns.getD i0 (0,0,0,[])).2.2.1,(ns.getD i0 (0,0,0,[])).2.2.2) ff (D2 (pi,ts,ns,os) ff (vv,cc) ((C6 ns).take k)).1:=A4k (p:=(pi,ts,ns,os)) hF hfl hkv.1 (i:=i0) hlt
   obtain⟨_,_,_,_,_,hq6,_⟩:=b7 hst
   have hnx:=hnx (by omega)
   refine A2 ?_;simp only[go_sem];refine hK5 _ ?_;refine oS fun _ hK6=>?_;refine A1 ?_;refine oS fun _ hK7=>?_;refine oW I6 ?_;simp only[hi,go_sem];repeat(with_reducible refine oA ?_)
   refine hK7 _ ?_;refine oS fun _ hK8=>?_;refine oW I6 ?_;simp (maxSteps:=2000000)only[go_sem];repeat(with_reducible refine oA ?_)
   refine hK8 _ ?_;refine oS fun _ hK9=>?_;refine oS fun _ hK10=>?_;refine oW I6 ?_;simp only[go_sem];repeat(with_reducible refine oA ?_)
   refine hK10 _ ?_;refine oC rfl ?_ ?_
   ·
    intro c1
    have e1:(D2 (pi,ts,ns,os) ff (vv,cc) ((C6 ns).take (k+1))).1=((D2 (pi,ts,ns,os) ff (vv,cc) ((C6 ns).take k)).1).set i0 ((((D2 (pi,ts,ns,os) ff (vv,cc) ((C6 ns).take k)).2).getD i0 []).getD 0 0):=by
      rw[hnx,hi];simp only[O7,Int.toNat_natCast];rw[C3z c1]
    have e2:(D2 (pi,ts,ns,os) ff (vv,cc) ((C6 ns).take (k+1))).2=(D2 (pi,ts,ns,os) ff (vv,cc) ((C6 ns).take k)).2:=by
      rw[hnx,hi];simp only[O7,Int.toNat_natCast];rw[decide_eq_true (show ((pi,ts,ns,os).2.2.1.getD i0 n0).1=6 from c1)]
    refine oS fun _ hK11=>?_
    refine oR I6
      [[],[0],[0,1],[0,1,2],[],[],[5],[5,6],[5,6,7],[],[5,6,7,8,9],[5,6,7,8,9,10],[5,6,7,8,9,10,11],[5,6,7,8,9,10,11,12],[0,1,2,3,4,5,6,7,8,9,10,11,12,13],[0,1,2,3,4,5,6,7,8,9,10,11,12,13,14]]
      [[],[],[],[],[],[],[],[],[],[],[],[],[],[],[],[]]
      [[],[],[],[],[],[],[],[],[],[],[],[],[],[],[],[]] (by kernel_rfl) (by kernel_rfl) (A9 (acc:=[]) ?_)
    simp (maxSteps:=2000000)only[go_sem];repeat(with_reducible refine oD ?_)
    refine hK11 _ ?_;refine B6 ?_;simp only[go_sem];refine hK6 _ ?_;refine oW I6 ?_;simp only[go_sem];refine hL3 ⟨k+1,by omega⟩ _ (oK ?_) ?_
    ·
     simp (maxSteps:=2000000)only[go_sem];all_goals((repeat' refine And.intro ?_ ?_)<;>first|rfl|exact wk (by omega)|exact e1.symm|(congr 1;exact e2.symm)|(congr 1;done))
    ·
     first|(simp only[];omega)|omega|(simp;omega)
   intro c1
   have e1:(D2 (pi,ts,ns,os) ff (vv,cc) ((C6 ns).take (k+1))).1=((D2 (pi,ts,ns,os) ff (vv,cc) ((C6 ns).take k)).1).set i0 (o7 (ns.getD i0 (0,0,0,[])).1 (ns.getD i0 (0,0,0,[])).2.1 ts (Q8 ((ns.getD i0 (0,0,0,[])).1,(ns.getD i0 (0,0,0,[])).2.1,(ns.getD i0 (0,0,0,[])).2.2.1,(ns.getD i0 (0,0,0,[])).2.2.2) ff (D2 (pi,ts,ns,os) ff (vv,cc) ((C6 ns).take k)).1) (((D2 (pi,ts,ns,os) ff (vv,cc) ((C6 ns).take k)).2).getD i0 [])):=by
     rw[hnx,hi]
     rfl
   have e2:(D2 (pi,ts,ns,os) ff (vv,cc) ((C6 ns).take (k+1))).2=((D2 (pi,ts,ns,os) ff (vv,cc) ((C6 ns).take k)).2).set i0 (m0 (ns.getD i0 (0,0,0,[])).1 (Q8 ((ns.getD i0 (0,0,0,[])).1,(ns.getD i0 (0,0,0,[])).2.1,(ns.getD i0 (0,0,0,[])).2.2.1,(ns.getD i0 (0,0,0,[])).2.2.2) ff (D2 (pi,ts,ns,os) ff (vv,cc) ((C6 ns).take k)).1) (((D2 (pi,ts,ns,os) ff (vv,cc) ((C6 ns).take k)).2).getD i0 []) (o7 (ns.getD i0 (0,0,0,[])).1 (ns.getD i0 (0,0,0,[])).2.1 ts (Q8 ((ns.getD i0 (0,0,0,[])).1,(ns.getD i0 (0,0,0,[])).2.1,(ns.getD i0 (0,0,0,[])).2.2.1,(ns.getD i0 (0,0,0,[])).2.2.2) ff (D2 (pi,ts,ns,os) ff (vv,cc) ((C6 ns).take k)).1) (((D2 (pi,ts,ns,os) ff (vv,cc) ((C6 ns).take k)).2).getD i0 []))):=by
     rw[hnx,hi];simp only[O7,Int.toNat_natCast];rw[decide_eq_false (show ¬((pi,ts,ns,os).2.2.1.getD i0 n0).1=6 from c1)]
     rfl
   refine A2 ?_;simp only[go_sem];refine hK9 _ ?_
   refine oR I6
     [[],[0],[0,1],[0,1,2],[],[],[5],[5,6],[5,6,7],[],[],[],[11],[11,12],[11,12,13],[11,12,13,14],[],[],[],[16,17,18],[],[20],[20,21],[20,21,22],[],[20,21,22,23,24],[20,21,22,23,24,25],[10,11,12,13,14,15,16,17,18,19,20,21,22,23,24,25,26],[10,11,12,13,14,15,16,17,18,19,20,21,22,23,24,25,26,27],[10,11,12,13,14,15,16,17,18,19,20,21,22,23,24,25,26,27,28],[10,11,12,13,14,15,16,17,18,19,20,21,22,23,24,25,26,27,28],[0,1,2,3,4,5,6,7,8,10,11,12,13,14,15,16,17,18,19,20,21,22,23,24,25,26,27,28,29],[0,1,2,3,4,5,6,7,8,10,11,12,13,14,15,16,17,18,19,20,21,22,23,24,25,26,27,28,29,31],[0,1,2,3,4,5,6,7,8,9,10,11,12,13,14,15,16,17,18,19,20,21,22,23,24,25,26,27,28,29,30,31,32],[0,1,2,3,4,5,6,7,8,9,10,11,12,13,14,15,16,17,18,19,20,21,22,23,24,25,26,27,28,29,30,31,32,33]]
     [[1124,1125,1126,1127,1128,1129,1130,1131,1132,1133,1134,1135,1136,1137,1138,1139,1252,1253,1254,1255,1256,1257,1258,1259,1260,1261,1262,1263,1264,1265,1266,1267],[1124,1125,1126,1127,1128,1129,1130,1131,1132,1133,1134,1135,1136,1137,1138,1139,1252,1253,1254,1255,1256,1257,1258,1259,1260,1261,1262,1263,1264,1265,1266,1267],[1124,1125,1126,1127,1128,1129,1130,1131,1132,1133,1134,1135,1136,1137,1138,1139,1252,1253,1254,1255,1256,1257,1258,1259,1260,1261,1262,1263,1264,1265,1266,1267],[1124,1125,1126,1127,1128,1129,1130,1131,1132,1133,1134,1135,1136,1137,1138,1139,1252,1253,1254,1255,1256,1257,1258,1259,1260,1261,1262,1263,1264,1265,1266,1267],[1124,1125,1126,1127,1128,1129,1130,1131,1132,1133,1134,1135,1136,1137,1138,1139,1252,1253,1254,1255,1256,1257,1258,1259,1260,1261,1262,1263,1264,1265,1266,1267],[1124,1125,1126,1127,1128,1129,1130,1131,1132,1133,1134,1135,1136,1137,1138,1139,1252,1253,1254,1255,1256,1257,1258,1259,1260,1261,1262,1263,1264,1265,1266,1267],[1124,1125,1126,1127,1128,1129,1130,1131,1132,1133,1134,1135,1136,1137,1138,1139,1252,1253,1254,1255,1256,1257,1258,1259,1260,1261,1262,1263,1264,1265,1266,1267],[1124,1125,1126,1127,1128,1129,1130,1131,1132,1133,1134,1135,1136,1137,1138,1139,1252,1253,1254,1255,1256,1257,1258,1259,1260,1261,1262,1263,1264,1265,1266,1267],[1124,1125,1126,1127,1128,1129,1130,1131,1132,1133,1134,1135,1136,1137,1138,1139,1252,1253,1254,1255,1256,1257,1258,1259,1260,1261,1262,1263,1264,1265,1266,1267],[32,1124,1125,1126,1127,1128,1129,1130,1131,1132,1133,1134,1135,1136,1137,1138,1139,1252,1253,1254,1255,1256,1257,1258,1259,1260,1261,1262,1263,1264,1265,1266,1267],[1124,1125,1126,1127,1128,1129,1130,1131,1132,1133,1134,1135,1136,1137,1138,1139],[1124,1125,1126,1127,1128,1129,1130,1131,1132,1133,1134,1135,1136,1137,1138,1139],[1124,1125,1126,1127,1128,1129,1130,1131,1132,1133,1134,1135,1136,1137,1138,1139],[1124,1125,1126,1127,1128,1129,1130,1131,1132,1133,1134,1135,1136,1137,1138,1139],[1124,1125,1126,1127,1128,1129,1130,1131,1132,1133,1134,1135,1136,1137,1138,1139],[1124,1125,1126,1127,1128,1129,1130,1131,1132,1133,1134,1135,1136,1137,1138,1139],[],[],[],[],[1124,1125,1126,1127,1128,1129,1130,1131,1132,1133,1134,1135,1136,1137,1138,1139],[1124,1125,1126,1127,1128,1129,1130,1131,1132,1133,1134,1135,1136,1137,1138,1139],[1124,1125,1126,1127,1128,1129,1130,1131,1132,1133,1134,1135,1136,1137,1138,1139],[1124,1125,1126,1127,1128,1129,1130,1131,1132,1133,1134,1135,1136,1137,1138,1139],[1124,1125,1126,1127,1128,1129,1130,1131,1132,1133,1134,1135,1136,1137,1138,1139],[1124,1125,1126,1127,1128,1129,1130,1131,1132,1133,1134,1135,1136,1137,1138,1139],[1124,1125,1126,1127,1128,1129,1130,1131,1132,1133,1134,1135,1136,1137,1138,1139],[],[],[],[32],[],[],[],[]]
     [[],[],[],[],[],[],[],[],[],[],[],[],[],[],[],[],[],[],[],[1124,1125,1126,1127,1128,1129,1130,1131,1132,1133,1134,1135,1136,1137,1138,1139],[],[],[],[],[],[],[],[1252,1253,1254,1255,1256,1257,1258,1259,1260,1261,1262,1263,1264,1265,1266,1267],[],[],[],[],[32],[],[]] (by kernel_rfl) (by kernel_rfl) (A9 (acc:=[]) ?_)
   simp (maxSteps:=2000000)only[List.nodup_cons,List.nodup_nil,List.not_mem_nil,not_false_eq_true,go_sem];repeat(with_reducible first|refine oD ?_|refine And.intro (by first|exact hic|exact hst) ?_)
   refine hK6 _ ?_;refine oW I6 ?_;simp only[go_sem];refine hL3 ⟨k+1,by omega⟩ _ (oK ?_) ?_
   ·
    simp (maxSteps:=2000000)only[go_sem];all_goals((repeat' refine And.intro ?_ ?_)<;>first|rfl|exact wk (by omega)|exact e1.symm|(congr 1;exact e2.symm)|(congr 1;done))
   ·
    first|(simp only[];omega)|omega|(simp;omega)
  intro c0;refine B6 ?_;simp only[go_sem];refine hK1 _ ?_;refine oS fun _ hK12=>?_;refine oW I6 ?_;simp (maxSteps:=2000000)only[go_sem];repeat(with_reducible refine oA ?_)
  refine hK12 _ ?_;refine A1 ?_;refine A7 (ι:={ k:Nat // k≤ns.length }) (fun k=>⟨[.c (.po 30 0),.c (.ow 34),zz,zz,zz,zz,zz,zz,zz,zz,zz,zz,zz,zz,zz,zz,zz,zz,zz,zz,zz,zz,zz,zz,zz,zz,zz,zz,zz,zz,zz,zz,zz,zz,zz,zz,zz,zz,zz,zz,zz,zz,zz,zz,zz,zz,zz,zz,zz,zz,zz,zz,zz,zz,zz,zz,zz,zz,zz,zz,zz,zz,zz,zz,zz,zz,zz,zz,zz,zz,zz,zz,zz,zz,zz,zz,zz,zz,zz,zz,zz,zz,.c (.rd [] 95 ((.prod (.int .i64) (.prod (.int .i64) (.prod (.int .i64) (.row 2 (.int .i64)))))) (ns)),.c (.sc (.int .i64 (ns.length))),.c (.sc (.int .i64 (k.1))),zz,zz,zz,zz,zz,zz,zz,zz,zz,zz,zz,zz,zz,zz,zz,zz,zz,zz,zz,zz,zz,zz,zz,zz,zz,zz,zz,zz,zz,zz],[(30,.box [.sc (.int .i64 (pi)),.rd [] 26 ((.row 2 (.int .i64))) (ts),.rd [] 95 ((.prod (.int .i64) (.prod (.int .i64) (.prod (.int .i64) (.row 2 (.int .i64)))))) (ns),.rd [] 2 (.int .i64) (os),.ow 31,.ow 32,.ow 33]),(31,.row 2 (.int .i64) (C6 ns) []),(32,.row 2 (.int .i64) ((D2 (pi,ts,ns,os) ff (vv,cc) (C6 ns)).1) []),(33,.tree 26 (.row 2 (.int .i64)) ((Q7 (pi,ts,ns,os) ff (D2 (pi,ts,ns,os) ff (vv,cc) (C6 ns)).1 (D2 (pi,ts,ns,os) ff (vv,cc) (C6 ns)).2 k.1)) none),(34,.row 2 (.int .i64) (ff) [])]⟩) (fun k=>ns.length - k.1) ⟨0,by simp⟩ ?_ ?_
  ·
   refine oK ?_;simp (maxSteps:=2000000)only[go_sem];all_goals((repeat' refine And.intro ?_ ?_)<;>first|rfl|exact congrArg (fun z=>(D2 (pi,ts,ns,os) ff (vv,cc) z).1) (List.take_of_length_le (by omega))|(congr 1;exact congrArg (fun z=>(D2 (pi,ts,ns,os) ff (vv,cc) z).2) (List.take_of_length_le (by omega)))|(congr 1;done))
  rintro⟨k,hk⟩ K13 hL13
  obtain⟨hkv,hks0⟩:=B6D (p:=(pi,ts,ns,os)) (s:=cc) (fr:=ff) (v0:=vv) hF hcc hff hvv
  have hks:=B8y (p:=(pi,ts,ns,os)) hF hks0 hff hkv k hk
  have hvl:((D2 (pi,ts,ns,os) ff (vv,cc) (C6 ns)).1).length=ns.length:=hkv.1
  have hsl:(Q7 (pi,ts,ns,os) ff (D2 (pi,ts,ns,os) ff (vv,cc) (C6 ns)).1 (D2 (pi,ts,ns,os) ff (vv,cc) (C6 ns)).2 k).length=ns.length:=hks.1
  refine oS fun _ hK14=>?_;refine oW I6 ?_;simp only[go_sem];refine hK14 _ ?_;refine oS fun _ hK15=>?_;refine oC rfl ?_ ?_
  ·
   intro c2;refine A2 ?_;simp only[go_sem];refine hK15 _ ?_;refine oS fun _ hK16=>?_;refine A1 ?_;refine oS fun _ hK17=>?_;refine oW I6 ?_;simp (maxSteps:=2000000)only[go_sem];repeat(with_reducible refine oA ?_)
   refine hK17 _ ?_;refine oS fun _ hK18=>?_;refine oW I6 ?_;simp only[go_sem];repeat(with_reducible refine oA ?_)
   refine hK18 _ ?_;refine oC rfl ?_ ?_
   ·
    intro c3;have hst0:=s8 (p:=(pi,ts,ns,os)) hF hks hff hkv.2 (i:=k) (by show k < ns.length;omega)
    have hst:m6 ((ns.getD k (0,0,0,[])).1,(ns.getD k (0,0,0,[])).2.1,(ns.getD k (0,0,0,[])).2.2.1,(ns.getD k (0,0,0,[])).2.2.2) [] (Q8 ((ns.getD k (0,0,0,[])).1,(ns.getD k (0,0,0,[])).2.1,(ns.getD k (0,0,0,[])).2.2.1,(ns.getD k (0,0,0,[])).2.2.2) ff (D2 (pi,ts,ns,os) ff (vv,cc) (C6 ns)).1) ((Q7 (pi,ts,ns,os) ff (D2 (pi,ts,ns,os) ff (vv,cc) (C6 ns)).1 (D2 (pi,ts,ns,os) ff (vv,cc) (C6 ns)).2 k).getD k []):=hst0.c6 c3
    have hic:A9i ((ns.getD k (0,0,0,[])).1,(ns.getD k (0,0,0,[])).2.1,(ns.getD k (0,0,0,[])).2.2.1,(ns.getD k (0,0,0,[])).2.2.2) ff (D2 (pi,ts,ns,os) ff (vv,cc) (C6 ns)).1:=A4k (p:=(pi,ts,ns,os)) hF hfl hkv.1 (i:=k) (by show k < ns.length;omega)
    have e3:Q7 (pi,ts,ns,os) ff (D2 (pi,ts,ns,os) ff (vv,cc) (C6 ns)).1 (D2 (pi,ts,ns,os) ff (vv,cc) (C6 ns)).2 (k+1)=(Q7 (pi,ts,ns,os) ff (D2 (pi,ts,ns,os) ff (vv,cc) (C6 ns)).1 (D2 (pi,ts,ns,os) ff (vv,cc) (C6 ns)).2 k).set k (m0 (ns.getD k (0,0,0,[])).1 (Q8 ((ns.getD k (0,0,0,[])).1,(ns.getD k (0,0,0,[])).2.1,(ns.getD k (0,0,0,[])).2.2.1,(ns.getD k (0,0,0,[])).2.2.2) ff (D2 (pi,ts,ns,os) ff (vv,cc) (C6 ns)).1) ((Q7 (pi,ts,ns,os) ff (D2 (pi,ts,ns,os) ff (vv,cc) (C6 ns)).1 (D2 (pi,ts,ns,os) ff (vv,cc) (C6 ns)).2 k).getD k []) (o7 (ns.getD k (0,0,0,[])).1 (ns.getD k (0,0,0,[])).2.1 [] (Q8 ((ns.getD k (0,0,0,[])).1,(ns.getD k (0,0,0,[])).2.1,(ns.getD k (0,0,0,[])).2.2.1,(ns.getD k (0,0,0,[])).2.2.2) ff (D2 (pi,ts,ns,os) ff (vv,cc) (C6 ns)).1) ((Q7 (pi,ts,ns,os) ff (D2 (pi,ts,ns,os) ff (vv,cc) (C6 ns)).1 (D2 (pi,ts,ns,os) ff (vv,cc) (C6 ns)).2 k).getD k []))):=by
      simp only[Q7,A0w];rw[decide_eq_true (show ((pi,ts,ns,os).2.2.1.getD k n0).1=6 from c3)]
      exact congrArg (List.set _ k) (B8g c3)
    refine oR I6
      [[],[0],[0,1],[0,1,2],[],[],[],[],[],[6,7,8],[],[10],[10,11],[10,11,12],[],[10,11,12,13,14],[10,11,12,13,14,15],[5,6,7,8,9,10,11,12,13,14,15,16],[5,6,7,8,9,10,11,12,13,14,15,16,17],[5,6,7,8,9,10,11,12,13,14,15,16,17,18],[5,6,7,8,9,10,11,12,13,14,15,16,17,18],[0,1,2,3,4,5,6,7,8,9,10,11,12,13,14,15,16,17,18,19,20],[0,1,2,3,4,5,6,7,8,9,10,11,12,13,14,15,16,17,18,19,20,21]]
      [[1732,1733,1734,1735,1736,1737,1738,1739,1740,1741,1742,1743,1744,1745,1746,1747,1860,1861,1862,1863,1864,1865,1866,1867,1868,1869,1870,1871,1872,1873,1874,1875],[1732,1733,1734,1735,1736,1737,1738,1739,1740,1741,1742,1743,1744,1745,1746,1747,1860,1861,1862,1863,1864,1865,1866,1867,1868,1869,1870,1871,1872,1873,1874,1875],[1732,1733,1734,1735,1736,1737,1738,1739,1740,1741,1742,1743,1744,1745,1746,1747,1860,1861,1862,1863,1864,1865,1866,1867,1868,1869,1870,1871,1872,1873,1874,1875],[1732,1733,1734,1735,1736,1737,1738,1739,1740,1741,1742,1743,1744,1745,1746,1747,1860,1861,1862,1863,1864,1865,1866,1867,1868,1869,1870,1871,1872,1873,1874,1875],[1732,1733,1734,1735,1736,1737,1738,1739,1740,1741,1742,1743,1744,1745,1746,1747,1860,1861,1862,1863,1864,1865,1866,1867,1868,1869,1870,1871,1872,1873,1874,1875],[1732,1733,1734,1735,1736,1737,1738,1739,1740,1741,1742,1743,1744,1745,1746,1747],[],[],[],[],[1732,1733,1734,1735,1736,1737,1738,1739,1740,1741,1742,1743,1744,1745,1746,1747],[1732,1733,1734,1735,1736,1737,1738,1739,1740,1741,1742,1743,1744,1745,1746,1747],[1732,1733,1734,1735,1736,1737,1738,1739,1740,1741,1742,1743,1744,1745,1746,1747],[1732,1733,1734,1735,1736,1737,1738,1739,1740,1741,1742,1743,1744,1745,1746,1747],[1732,1733,1734,1735,1736,1737,1738,1739,1740,1741,1742,1743,1744,1745,1746,1747],[1732,1733,1734,1735,1736,1737,1738,1739,1740,1741,1742,1743,1744,1745,1746,1747],[1732,1733,1734,1735,1736,1737,1738,1739,1740,1741,1742,1743,1744,1745,1746,1747],[],[],[],[],[],[]]
      [[],[],[],[],[],[],[],[],[],[1732,1733,1734,1735,1736,1737,1738,1739,1740,1741,1742,1743,1744,1745,1746,1747],[],[],[],[],[],[],[],[1860,1861,1862,1863,1864,1865,1866,1867,1868,1869,1870,1871,1872,1873,1874,1875],[],[],[],[],[]] (by kernel_rfl) (by kernel_rfl) (A9 (acc:=[]) ?_)
    simp (maxSteps:=2000000)only[List.nodup_cons,List.nodup_nil,List.not_mem_nil,not_false_eq_true,go_sem];repeat(with_reducible first|refine oD ?_|refine And.intro (by first|exact hic|exact hst) ?_)
    refine hK16 _ ?_;refine oW I6 ?_;simp only[go_sem];refine hL13 ⟨k+1,by omega⟩ _ (oK ?_) ?_
    ·
     simp (maxSteps:=2000000)only[go_sem];all_goals((repeat' refine And.intro ?_ ?_)<;>first|rfl|exact wk (by omega)|(congr 1;exact e3.symm)|(congr 1;done))
    ·
     first|(simp only[];omega)|omega|(simp;omega)
   intro c3
   have e3:Q7 (pi,ts,ns,os) ff (D2 (pi,ts,ns,os) ff (vv,cc) (C6 ns)).1 (D2 (pi,ts,ns,os) ff (vv,cc) (C6 ns)).2 (k+1)=(Q7 (pi,ts,ns,os) ff (D2 (pi,ts,ns,os) ff (vv,cc) (C6 ns)).1 (D2 (pi,ts,ns,os) ff (vv,cc) (C6 ns)).2 k):=by
     simp only[Q7,A0w];rw[decide_eq_false (show ¬((pi,ts,ns,os).2.2.1.getD k n0).1=6 from c3)]
   refine A2 ?_;simp only[go_sem];refine hK16 _ ?_;refine oW I6 ?_;simp only[go_sem];refine hL13 ⟨k+1,by omega⟩ _ (oK ?_) ?_
   ·
    simp (maxSteps:=2000000)only[go_sem];all_goals((repeat' refine And.intro ?_ ?_)<;>first|rfl|exact wk (by omega)|(congr 1;exact e3.symm)|(congr 1;done))
   ·
    first|(simp only[];omega)|omega|(simp;omega)
  intro c2;refine B6 ?_;simp only[go_sem];simp (maxSteps:=2000000)only[hres,go_sem]
  first
   | exact oG
   | refine ⟨oG, ?_⟩
     have hk3:k=ns.length:=by omega
     clear hK1 hK2 hL3 hK4 hK5 hK12 hL13 hK14 hK15;subst hk3
     (repeat' refine And.intro ?_ ?_)<;>first|rfl|(congr 1;done)
def B0i:E4:=fun f=>if f=86 then some (.g A1o) else B3c f
theorem B5L:B4 Tryz.prog B0i:=m8 C02 (B0 Tryz.func86 rfl (by decide)) I6
attribute [go_sem] B0i A1o
end Go.Proofs.YtgaogcnfijbahaaGreat
