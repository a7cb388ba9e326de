/-
  Texts of this claim, joined (part 45). No condition beyond those of the theorems.
-/
import Derived.Test.YtgaogcnfijbahaaGreatQ44
import Derived.Test.YtgaogcnfijbahaaGreatQ18
import Derived.Test.YtgaogcnfijbahaaGreatQ19
namespace Go.Proofs.YtgaogcnfijbahaaGreat
open Go.RowKit
set_option linter.unusedSimpArgs false
set_option linter.unusedVariables false
set_option maxRecDepth 100000
set_option maxHeartbeats 16000000
def A3N:Con:=⟨[.val ((.prod (.int .i64) (.prod (.row 26 (.row 2 (.int .i64))) (.prod (.row 95 (.prod (.int .i64) (.prod (.int .i64) (.prod (.int .i64) (.row 2 (.int .i64)))))) (.row 2 (.int .i64))))))],[⟨(.prod (.int .i64) (.prod (.row 26 (.row 2 (.int .i64))) (.prod (.row 26 (.row 2 (.int .i64))) (.prod (.row 26 (.row 2 (.int .i64))) (.row 26 (.row 2 (.int .i64))))))),true⟩],fun x=>B9 x.1=true,fun x=>F6 (D0 x.1)⟩
theorem C1A:C9 Tryz.prog 44 A3N:=by
  refine A4 Tryz.func44 rfl ?_
  have hres:Tryz.f44.results.toList=[.cell 2 54]:=rfl
  rintro⟨⟨(pi:Int),(ts:List (List Int)),(ns:List A6),(os:List Int)⟩,_⟩ hc hL
  simp only[A3N,go_sem] at hL
  simp only[A3N,St.init,St.initG,Tryz.ntmps44,go_sem] 
  have hP:B9 (pi,ts,ns,os)=true:=hc
  have hQ0:=T5 hP
  have hct0:=C0p hP
  rcases hqe:D0 (pi,ts,ns,os) with⟨qi,qt,qn,qo⟩
  rw[hqe] at hQ0 hct0
  have hQ:B9 (qi,qt,qn,qo)=true:=hQ0
  have hF:=(B8 hQ).1
  have hct:A1I (qi,qt,qn,qo)=B7 qn:=hct0
  have ho4:qo.length≤4:=(A8 hF).2.1
  have hpi:0≤qi∧qi≤4:=⟨(A8 hF).2.2.2.1,(A8 hF).2.2.2.2.1⟩
  have hpn:(((Int.toNat qi):Nat):Int)=qi:=Int.toNat_of_nonneg hpi.1
  have hc384:B7 qn≤384:=A0M (p:=(qi,qt,qn,qo)) hF
  have hcr:J3 (B7 qn:Int) 0 1099511627776=true:=J8 (by omega) (by omega)
  have hpr:J3 qi 0 1099511627776=true:=J8 (by omega) (by omega)
  have hr1:J3 (B7 qn:Int) 0 1000=true:=J8 (by omega) (by omega)
  have hr2:J3 (qo.length:Int) 0 1000=true:=J8 (by omega) (by omega)
  refine oS fun _ hK1=>?_;refine oW H1 ?_;simp only[go_sem];refine hK1 _ ?_;refine oS fun _ hK2=>?_;refine oW H1 ?_;simp only[List.nodup_cons,List.nodup_nil,List.not_mem_nil,not_false_eq_true,hqe,go_sem];repeat(with_reducible first|refine oA ?_|refine And.intro (by first|exact hP) ?_)
  refine hK2 _ ?_;refine oS fun _ hK3=>?_;refine H8 (f0 _ 372 (by decide)) ?_;simp (maxSteps:=2000000)only[go_sem];refine H8 (f0 _ 373 (by decide)) ?_;simp (maxSteps:=2000000)only[go_sem];refine H8 (t8 _ 374 (by decide)) ?_;simp (maxSteps:=2000000)only[go_sem];refine oW H1 ?_;simp only[hct,go_sem];repeat(with_reducible first|refine oA ?_|refine And.intro (by first|exact hF) ?_)
  refine hK3 _ ?_;refine oS fun _ hK4=>?_;refine oW H1 ?_;simp only[go_sem];repeat(with_reducible refine oA ?_)
  refine hK4 _ ?_;refine oS fun _ hK5=>?_;refine oW H1 ?_;simp only[go_sem];refine hK5 _ ?_;refine oS fun _ hK6=>?_;refine oS fun _ hK7=>?_;refine oW H1 ?_;simp only[go_sem];refine hK7 _ ?_;refine A1 ?_;refine H8 (A0z _ 5 9005 26 ((.row 2 (.int .i64))) (by decide)) ?_;simp (maxSteps:=2000000)only[go_sem];refine H8 (A0z _ 7 9007 26 ((.row 2 (.int .i64))) (by decide)) ?_;simp (maxSteps:=2000000)only[go_sem];refine A7 (ι:={ k:Nat // k≤B7 qn }) (fun k=>⟨[zz,.c (.po 116 0),.c (.po 132 0),.c (.sc (.int .i64 (B7 qn))),.c (.fn 83 [116]),.c (.ow 9005),.c (.sc (.slice none 0 0)),.c (.ow 9007),.c (.sc (.slice none 0 0)),zz,zz,zz,zz,zz,zz,zz,zz,zz,zz,zz,zz,.c (.sc (.int .i64 (B7 qn))),.c (.sc (.int .i64 (k.1))),zz,zz,zz,zz,zz,zz,zz,zz,zz,zz,zz,zz,zz,zz,zz,zz,zz,zz,zz,zz,zz,zz,zz,zz,zz,zz,zz,zz,zz,zz,zz,zz,zz,zz,zz,zz,zz,zz,zz,zz,zz,zz,zz,zz,zz,zz,zz,zz,zz,zz,zz,zz,zz,zz,zz,zz,zz,zz,zz,zz,zz,zz,zz,zz,zz],[(116,.box [.sc (.int .i64 (qi)),.rd [] 26 ((.row 2 (.int .i64))) (qt),.rd [] 95 ((.prod (.int .i64) (.prod (.int .i64) (.prod (.int .i64) (.row 2 (.int .i64)))))) (qn),.rd [] 2 (.int .i64) (qo)]),(132,.box [.sc (.int .i64 (0)),.sc (.slice none 0 0),.sc (.slice none 0 0),.sc (.slice none 0 0),.sc (.slice none 0 0)]),(9005,.tree 26 (.row 2 (.int .i64)) ((List.range k.1).map (fun j=>(stC (qi,qt,qn,qo) j).1)) none),(9007,.tree 26 (.row 2 (.int .i64)) ((List.range k.1).map (fun j=>(stC (qi,qt,qn,qo) j).2)) none)]⟩) (fun k=>B7 qn - k.1) ⟨0,by simp⟩ ?_ ?_
  ·
   refine oK ?_;simp (maxSteps:=2000000)only[go_sem];all_goals((repeat' refine And.intro ?_ ?_)<;>first|rfl|(congr 1;done)|(simp;done))
  rintro⟨k,hk⟩ K8 hL8
  have hla:((List.range k).map (fun j=>(stC (qi,qt,qn,qo) j).1)).length=k:=by simp
  have hlb:((List.range k).map (fun j=>(stC (qi,qt,qn,qo) j).2)).length=k:=by simp
  refine oS fun _ hK9=>?_;refine oW H1 ?_;simp only[go_sem];refine hK9 _ ?_;refine oS fun _ hK10=>?_;refine oC rfl ?_ ?_
  ·
   intro c0;have hk0:(0:Int)≤(k:Int):=by omega
   have hk1:(k:Int) < (B7 qn:Int):=by omega
   rcases hcq0:stC (qi,qt,qn,qo) k with⟨v1,v2⟩
   have hcq:S8 (qi,qt,qn,qo) (L4 (B7 qn) k) (List.replicate (Int.toNat qi) (0:Int))=(v1,v2):=hcq0
   have h1:v1=(stC (qi,qt,qn,qo) k).1:=by rw[hcq0]
   have h2:v2=(stC (qi,qt,qn,qo) k).2:=by rw[hcq0]
   have hn1:((List.range k).map (fun j=>(stC (qi,qt,qn,qo) j).1))++[v1]=((List.range k).map (fun j=>(stC (qi,qt,qn,qo) j).1))++[(stC (qi,qt,qn,qo) k).1]:=by rw[h1]
   have hn2:((List.range k).map (fun j=>(stC (qi,qt,qn,qo) j).2))++[v2]=((List.range k).map (fun j=>(stC (qi,qt,qn,qo) j).2))++[(stC (qi,qt,qn,qo) k).2]:=by rw[h2]
   have hcc:B9 (qi,qt,qn,qo)=true∧(L4 (B7 qn) k).length=B7 qn∧D9 (L4 (B7 qn) k)=true∧((List.replicate (Int.toNat qi) (0:Int)).length:Int)=qi∧D9 (List.replicate (Int.toNat qi) (0:Int))=true:=⟨hQ,(M4 _ _).1,(M4 _ _).2,by rw[List.length_replicate];exact hpn,(W4 _).2⟩
   refine A2 ?_;simp only[go_sem];refine hK10 _ ?_;refine oS fun _ hK11=>?_;refine A1 ?_;refine oS fun _ hK12=>?_;refine oW H1 ?_;simp only[go_sem];refine hK12 _ ?_;refine oS fun _ hK13=>?_
   refine oR H1
     [[],[],[],[1,2],[],[4],[1,2,3,4,5],[0,1,2,3,4,5,6],[0,1,2,3,4,5,6,7],[0,1,2,3,4,5,6,7,8],[0,1,2,3,4,5,6,7,8],[0,1,2,3,4,5,6,7,8,9],[0,1,2,3,4,5,6,7,8,9,10,11]]
     [[564,565,566,567,568,569,570,571,572,573,574,575,576,577,578,579,612,613,614,615,616,617,618,619,620,621,622,623,624,625,626,627],[],[],[],[564,565,566,567,568,569,570,571,572,573,574,575,576,577,578,579],[564,565,566,567,568,569,570,571,572,573,574,575,576,577,578,579],[],[],[],[],[],[],[]]
     [[],[],[],[564,565,566,567,568,569,570,571,572,573,574,575,576,577,578,579],[],[],[612,613,614,615,616,617,618,619,620,621,622,623,624,625,626,627],[],[],[],[],[],[]] (by kernel_rfl) (by kernel_rfl) (A9 (acc:=[]) ?_)
   simp (maxSteps:=2000000)only[Tryz.underlying118,Int.toNat_natCast,hcq,go_sem];repeat(with_reducible first|refine oD ?_|refine And.intro (by first|exact⟨hcr,hk0,hk1⟩|exact hpr|exact hcc) ?_)
   refine hK13 _ ?_;refine H8 (t8 _ 564 (by decide)) ?_;simp (maxSteps:=2000000)only[go_sem];refine H8 (t8 _ 612 (by decide)) ?_;simp (maxSteps:=2000000)only[go_sem];refine oW H1 ?_;simp (maxSteps:=2000000)only[List.nodup_cons,List.nodup_nil,List.not_mem_nil,not_false_eq_true,go_sem];repeat(with_reducible first|refine oA ?_|refine And.intro (by first|omega) ?_)
   refine hK11 _ ?_;refine oW H1 ?_;simp only[go_sem];refine hL8 ⟨k+1,by omega⟩ _ (oK ?_) ?_
   ·
    simp (maxSteps:=2000000)only[go_sem];all_goals((repeat' refine And.intro ?_ ?_)<;>first|rfl|exact wk (by omega)|exact hn1|exact hn2|(congr 1;exact hn1)|(congr 1;exact hn2)|(congr 1;done))
   ·
    first|(simp only[];omega)|omega|(simp;omega)
  intro c0;have hke:k=B7 qn:=by omega
  refine B6 ?_;simp only[go_sem];refine hK6 _ ?_;refine oS fun _ hK14=>?_;refine oS fun _ hK15=>?_;refine oW H1 ?_;simp only[go_sem];repeat(with_reducible refine oA ?_)
  refine hK15 _ ?_;refine A1 ?_;refine H8 (A0z _ 6 9006 26 ((.row 2 (.int .i64))) (by decide)) ?_;simp (maxSteps:=2000000)only[go_sem];refine H8 (A0z _ 8 9008 26 ((.row 2 (.int .i64))) (by decide)) ?_;simp (maxSteps:=2000000)only[go_sem];refine A7 (ι:={ k:Nat // k≤(Int.toNat qi) }) (fun k=>⟨[zz,.c (.po 116 0),.c (.po 132 0),.c (.sc (.int .i64 (B7 qn))),.c (.fn 83 [116]),.c (.ow 9005),.c (.ow 9006),.c (.ow 9007),.c (.ow 9008),zz,zz,zz,zz,zz,zz,zz,zz,zz,zz,zz,zz,zz,zz,zz,zz,zz,zz,zz,zz,zz,zz,zz,zz,zz,zz,zz,zz,zz,zz,zz,zz,zz,zz,zz,zz,zz,.c (.sc (.int .i64 (qi))),.c (.sc (.int .i64 (k.1))),zz,zz,zz,zz,zz,zz,zz,zz,zz,zz,zz,zz,zz,zz,zz,zz,zz,zz,zz,zz,zz,zz,zz,zz,zz,zz,zz,zz,zz,zz,zz,zz,zz,zz,zz,zz,zz,zz,zz,zz],[(116,.box [.sc (.int .i64 (qi)),.rd [] 26 ((.row 2 (.int .i64))) (qt),.rd [] 95 ((.prod (.int .i64) (.prod (.int .i64) (.prod (.int .i64) (.row 2 (.int .i64)))))) (qn),.rd [] 2 (.int .i64) (qo)]),(132,.box [.sc (.int .i64 (0)),.sc (.slice none 0 0),.sc (.slice none 0 0),.sc (.slice none 0 0),.sc (.slice none 0 0)]),(9005,.tree 26 (.row 2 (.int .i64)) ((List.range (B7 qn)).map (fun j=>(stC (qi,qt,qn,qo) j).1)) none),(9006,.tree 26 (.row 2 (.int .i64)) ((List.range k.1).map (fun j=>(inC (qi,qt,qn,qo) j).1)) none),(9007,.tree 26 (.row 2 (.int .i64)) ((List.range (B7 qn)).map (fun j=>(stC (qi,qt,qn,qo) j).2)) none),(9008,.tree 26 (.row 2 (.int .i64)) ((List.range k.1).map (fun j=>(inC (qi,qt,qn,qo) j).2)) none)]⟩) (fun k=>(Int.toNat qi) - k.1) ⟨0,by simp⟩ ?_ ?_
  ·
   refine oK ?_;simp (maxSteps:=2000000)only[go_sem];all_goals((repeat' refine And.intro ?_ ?_)<;>first|rfl|(rw[hke];done)|(congr 1;rw[hke];done)|(congr 1;done)|(simp;done))
  rintro⟨k,hk⟩ K16 hL16
  have hla:((List.range k).map (fun j=>(inC (qi,qt,qn,qo) j).1)).length=k:=by simp
  have hlb:((List.range k).map (fun j=>(inC (qi,qt,qn,qo) j).2)).length=k:=by simp
  refine oS fun _ hK17=>?_;refine oW H1 ?_;simp only[go_sem];refine hK17 _ ?_;refine oS fun _ hK18=>?_;refine oC rfl ?_ ?_
  ·
   intro c1;have hk0:(0:Int)≤(k:Int):=by omega
   have hk1:(k:Int) < qi:=by omega
   rcases hcq0:inC (qi,qt,qn,qo) k with⟨v1,v2⟩
   have hcq:S8 (qi,qt,qn,qo) (List.replicate (B7 qn) (0:Int)) (L4 (Int.toNat qi) k)=(v1,v2):=hcq0
   have h1:v1=(inC (qi,qt,qn,qo) k).1:=by rw[hcq0]
   have h2:v2=(inC (qi,qt,qn,qo) k).2:=by rw[hcq0]
   have hn1:((List.range k).map (fun j=>(inC (qi,qt,qn,qo) j).1))++[v1]=((List.range k).map (fun j=>(inC (qi,qt,qn,qo) j).1))++[(inC (qi,qt,qn,qo) k).1]:=by rw[h1]
   have hn2:((List.range k).map (fun j=>(inC (qi,qt,qn,qo) j).2))++[v2]=((List.range k).map (fun j=>(inC (qi,qt,qn,qo) j).2))++[(inC (qi,qt,qn,qo) k).2]:=by rw[h2]
   have hcc:B9 (qi,qt,qn,qo)=true∧(List.replicate (B7 qn) (0:Int)).length=B7 qn∧D9 (List.replicate (B7 qn) (0:Int))=true∧((L4 (Int.toNat qi) k).length:Int)=qi∧D9 (L4 (Int.toNat qi) k)=true:=⟨hQ,(W4 _).1,(W4 _).2,by rw[(M4 _ _).1];exact hpn,(M4 _ _).2⟩
   refine A2 ?_;simp only[go_sem];refine hK18 _ ?_;refine oS fun _ hK19=>?_;refine A1 ?_;refine oS fun _ hK20=>?_;refine oW H1 ?_;simp only[go_sem];refine hK20 _ ?_;refine oS fun _ hK21=>?_
   refine oR H1
     [[],[],[1],[],[3],[],[1,2,3,4,5],[0,1,2,3,4,5,6],[0,1,2,3,4,5,6,7],[0,1,2,3,4,5,6,7,8],[0,1,2,3,4,5,6,7,8],[0,1,2,3,4,5,6,7,8,9],[0,1,2,3,4,5,6,7,8,9,10,11]]
     [[948,949,950,951,952,953,954,955,956,957,958,959,960,961,962,963,1012,1013,1014,1015,1016,1017,1018,1019,1020,1021,1022,1023,1024,1025,1026,1027],[],[],[948,949,950,951,952,953,954,955,956,957,958,959,960,961,962,963],[948,949,950,951,952,953,954,955,956,957,958,959,960,961,962,963],[948,949,950,951,952,953,954,955,956,957,958,959,960,961,962,963],[],[],[],[],[],[],[]]
     [[],[],[948,949,950,951,952,953,954,955,956,957,958,959,960,961,962,963],[],[],[],[1012,1013,1014,1015,1016,1017,1018,1019,1020,1021,1022,1023,1024,1025,1026,1027],[],[],[],[],[],[]] (by kernel_rfl) (by kernel_rfl) (A9 (acc:=[]) ?_)
   simp (maxSteps:=2000000)only[Tryz.underlying118,Int.toNat_natCast,hcq,go_sem];repeat(with_reducible first|refine oD ?_|refine And.intro (by first|exact hcr|exact⟨hpr,hk0,hk1⟩|exact hcc) ?_)
   refine hK21 _ ?_;refine H8 (t8 _ 948 (by decide)) ?_;simp (maxSteps:=2000000)only[go_sem];refine H8 (t8 _ 1012 (by decide)) ?_;simp (maxSteps:=2000000)only[go_sem];refine oW H1 ?_;simp (maxSteps:=2000000)only[List.nodup_cons,List.nodup_nil,List.not_mem_nil,not_false_eq_true,go_sem];repeat(with_reducible first|refine oA ?_|refine And.intro (by first|omega) ?_)
   refine hK19 _ ?_;refine oW H1 ?_;simp only[go_sem];refine hL16 ⟨k+1,by omega⟩ _ (oK ?_) ?_
   ·
    simp (maxSteps:=2000000)only[go_sem];all_goals((repeat' refine And.intro ?_ ?_)<;>first|rfl|exact wk (by omega)|exact hn1|exact hn2|(congr 1;exact hn1)|(congr 1;exact hn2)|(congr 1;done))
   ·
    first|(simp only[];omega)|omega|(simp;omega)
  intro c1;have hkf:k=(Int.toNat qi):=by omega
  have h1a:((List.range (B7 qn)).map (fun j=>(stC (qi,qt,qn,qo) j).1)).length≤1000:=by rw[List.length_map,List.length_range];omega
  have h1b:∀j,j < ((List.range (B7 qn)).map (fun j=>(stC (qi,qt,qn,qo) j).1)).length→(((List.range (B7 qn)).map (fun j=>(stC (qi,qt,qn,qo) j).1)).getD j []).length=B7 qn:=A6b fun j=>(B8w hF j).1
  have h2a:((List.range k).map (fun j=>(inC (qi,qt,qn,qo) j).1)).length≤1000:=by rw[List.length_map,List.length_range];omega
  have h2b:∀j,j < ((List.range k).map (fun j=>(inC (qi,qt,qn,qo) j).1)).length→(((List.range k).map (fun j=>(inC (qi,qt,qn,qo) j).1)).getD j []).length=B7 qn:=A6b fun j=>(B8I hF j).1
  have h3a:((List.range (B7 qn)).map (fun j=>(stC (qi,qt,qn,qo) j).2)).length≤1000:=by rw[List.length_map,List.length_range];omega
  have h3b:∀j,j < ((List.range (B7 qn)).map (fun j=>(stC (qi,qt,qn,qo) j).2)).length→(((List.range (B7 qn)).map (fun j=>(stC (qi,qt,qn,qo) j).2)).getD j []).length=qo.length:=A6b fun j=>(B8w hF j).2
  have h4a:((List.range k).map (fun j=>(inC (qi,qt,qn,qo) j).2)).length≤1000:=by rw[List.length_map,List.length_range];omega
  have h4b:∀j,j < ((List.range k).map (fun j=>(inC (qi,qt,qn,qo) j).2)).length→(((List.range k).map (fun j=>(inC (qi,qt,qn,qo) j).2)).getD j []).length=qo.length:=A6b fun j=>(B8I hF j).2
  refine B6 ?_;simp only[go_sem];refine hK14 _ ?_;refine oS fun _ hK22=>?_;refine oW H1 ?_;simp only[go_sem];repeat(with_reducible refine oA ?_)
  refine hK22 _ ?_;refine oS fun _ hK23=>?_
  refine oR H1
    [[],[0],[],[],[2,3],[],[],[2,3,4,5,6],[],[],[2,3,4,5,6,7,8,9],[],[],[2,3,4,5,6,7,8,9,10,11,12],[0,1,2,3,4,5,6,7,8,9,10,11,12,13],[0,1,2,3,4,5,6,7,8,9,10,11,12,13,14]]
    [[1332,1333,1334,1335,1336,1337,1338,1339,1340,1341,1342,1343,1344,1345,1346,1347,1380,1381,1382,1383,1384,1385,1386,1387,1388,1389,1390,1391,1392,1393,1394,1395,1428,1429,1430,1431,1432,1433,1434,1435,1436,1437,1438,1439,1440,1441,1442,1443,1476,1477,1478,1479,1480,1481,1482,1483,1484,1485,1486,1487,1488,1489,1490,1491],[1332,1333,1334,1335,1336,1337,1338,1339,1340,1341,1342,1343,1344,1345,1346,1347,1380,1381,1382,1383,1384,1385,1386,1387,1388,1389,1390,1391,1392,1393,1394,1395,1428,1429,1430,1431,1432,1433,1434,1435,1436,1437,1438,1439,1440,1441,1442,1443,1476,1477,1478,1479,1480,1481,1482,1483,1484,1485,1486,1487,1488,1489,1490,1491],[],[],[],[1332,1333,1334,1335,1336,1337,1338,1339,1340,1341,1342,1343,1344,1345,1346,1347],[1332,1333,1334,1335,1336,1337,1338,1339,1340,1341,1342,1343,1344,1345,1346,1347],[],[1332,1333,1334,1335,1336,1337,1338,1339,1340,1341,1342,1343,1344,1345,1346,1347,1380,1381,1382,1383,1384,1385,1386,1387,1388,1389,1390,1391,1392,1393,1394,1395],[1332,1333,1334,1335,1336,1337,1338,1339,1340,1341,1342,1343,1344,1345,1346,1347,1380,1381,1382,1383,1384,1385,1386,1387,1388,1389,1390,1391,1392,1393,1394,1395],[],[1332,1333,1334,1335,1336,1337,1338,1339,1340,1341,1342,1343,1344,1345,1346,1347,1380,1381,1382,1383,1384,1385,1386,1387,1388,1389,1390,1391,1392,1393,1394,1395,1428,1429,1430,1431,1432,1433,1434,1435,1436,1437,1438,1439,1440,1441,1442,1443],[1332,1333,1334,1335,1336,1337,1338,1339,1340,1341,1342,1343,1344,1345,1346,1347,1380,1381,1382,1383,1384,1385,1386,1387,1388,1389,1390,1391,1392,1393,1394,1395,1428,1429,1430,1431,1432,1433,1434,1435,1436,1437,1438,1439,1440,1441,1442,1443],[],[],[]]
    [[],[],[],[],[1332,1333,1334,1335,1336,1337,1338,1339,1340,1341,1342,1343,1344,1345,1346,1347],[],[],[1380,1381,1382,1383,1384,1385,1386,1387,1388,1389,1390,1391,1392,1393,1394,1395],[],[],[1428,1429,1430,1431,1432,1433,1434,1435,1436,1437,1438,1439,1440,1441,1442,1443],[],[],[1476,1477,1478,1479,1480,1481,1482,1483,1484,1485,1486,1487,1488,1489,1490,1491],[],[]] (by kernel_rfl) (by kernel_rfl) (A9 (acc:=[]) ?_)
  simp (maxSteps:=2000000)only[Int.toNat_natCast,C3k,go_sem];repeat(with_reducible first|refine oD ?_|refine And.intro (by first|exact⟨hr1,h1a,h1b⟩|exact⟨hr1,h2a,h2b⟩|exact⟨hr2,h3a,h3b⟩|exact⟨hr2,h4a,h4b⟩) ?_)
  refine hK23 _ ?_;refine A0 ?_;simp only[hres,go_sem]
  first
   | exact oF
   | refine ⟨?_, oF⟩
     rw[hkf];first|done|rfl
def A8h:E4:=fun f=>if f=44 then some (.p A3N) else B22 f
theorem B4t:B4 Tryz.prog A8h:=E3 C1A (B0 Tryz.func44 rfl (by decide)) H1
attribute [go_sem] A8h A3N
end Go.Proofs.YtgaogcnfijbahaaGreat
