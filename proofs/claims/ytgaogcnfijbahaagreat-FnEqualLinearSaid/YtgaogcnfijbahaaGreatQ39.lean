/-
  Texts of this claim, joined (part 39). No condition beyond those of the theorems.
-/
import Derived.Test.YtgaogcnfijbahaaGreatQ36
namespace Go.Proofs.YtgaogcnfijbahaaGreat
open Go.RowKit
set_option linter.unusedSimpArgs false
set_option linter.unusedVariables false
set_option maxRecDepth 100000
set_option maxHeartbeats 4000000
def A0U:GCon where
  ps:=[.val ((.prod (.int .i64) (.prod (.row 26 (.row 2 (.int .i64))) (.prod (.row 95 (.prod (.int .i64) (.prod (.int .i64) (.prod (.int .i64) (.row 2 (.int .i64)))))) (.row 2 (.int .i64)))))),.val ((.row 2 (.int .i64)))]
  os:=[]
  c:=fun x=>C0 x.1.1=true∧x.1.2.1.length=B7 x.1.1.2.2.1
  r:=fun _=>.agg [.ow 10]
  o:=fun x=>[(10,.tree 26 (.row 2 (.int .i64)) (O6 x.1.1.2.2.1 x.1.2.1) none)]
  ok:=by
    rintro⟨⟨⟨(pi:Int),(ts:List (List Int)),(ns:List A6),(os:List Int)⟩,(cs:List Int),_⟩,_⟩
    exact⟨rfl,rfl,by decide⟩
theorem B81:Z2 Tryz.prog 85 A0U:=by
  refine E1 Tryz.func85 rfl ?_
  have hres:Tryz.f85.results.toList=[.cell 4 89]:=rfl
  rintro⟨⟨⟨(pi:Int),(ts:List (List Int)),(ns:List A6),(os:List Int)⟩,(cs:List Int),_⟩,_⟩ hc hL hO
  simp only[A0U,go_sem] at hL
  simp only[A0U,go_sem] at hO
  simp only[A0U,St.init,St.initG,Tryz.ntmps85,go_sem] 
  obtain⟨hF,hcs⟩:=(show C0 (pi,ts,ns,os)=true∧cs.length=B7 ns from hc)
  have hn24:ns.length≤24:=(A8 hF).1
  have hc384:B7 ns≤384:=A0M (p:=(pi,ts,ns,os)) hF
  have hsl:(O6 ns cs).length=ns.length:=w8 _ _
  refine oS fun _ hK1=>?_;refine oW R8 ?_;simp only[go_sem];refine hK1 _ ?_;refine oS fun _ hK2=>?_;refine oW R8 ?_;simp only[go_sem];repeat(with_reducible refine oA ?_)
  refine hK2 _ ?_;refine oS fun _ hK3=>?_;refine oS fun _ hK4=>?_;refine oW R8 ?_;simp only[go_sem];repeat(with_reducible refine oA ?_)
  refine hK4 _ ?_;refine A1 ?_;refine H8 (P9 _ 180 0 9001 26 ((.row 2 (.int .i64))) (by decide)) ?_;simp (maxSteps:=2000000)only[go_sem];refine A7 (ι:={ k:Nat // k≤ns.length }) (fun k=>⟨[zz,.c (.rd [] 2 (.int .i64) (cs.drop (T4 ns k.1))),zz,zz,.c (.po 164 0),.c (.po 180 0),zz,zz,zz,zz,zz,.c (.rd [] 95 ((.prod (.int .i64) (.prod (.int .i64) (.prod (.int .i64) (.row 2 (.int .i64)))))) (ns)),.c (.sc (.int .i64 (ns.length))),.c (.sc (.int .i64 (k.1))),zz,zz,zz,zz,zz,zz,zz,zz,zz,zz,zz,zz,zz,zz,zz,zz,zz,zz,zz,zz],[(164,.box [.sc (.slice none 0 0)]),(180,.box [.ow 9001]),(9001,.tree 26 (.row 2 (.int .i64)) ((O6 ns cs).take k.1) none)]⟩) (fun k=>ns.length - k.1) ⟨0,by simp⟩ ?_ ?_
  ·
   refine oK ?_;simp (maxSteps:=2000000)only[go_sem];all_goals((repeat' refine And.intro ?_ ?_)<;>first|rfl|(congr 1;done)|(simp[T4,B7];done))
  rintro⟨k,hk⟩ K5 hL5
  have htk:(List.take k (O6 ns cs)).length≤24:=by rw[List.length_take];omega
  refine oS fun _ hK6=>?_;refine oW R8 ?_;simp only[go_sem];refine hK6 _ ?_;refine oS fun _ hK7=>?_;refine oC rfl ?_ ?_
  ·
   intro c0;have hnc:A23 ((ns.getD k ((0,0,0,[]):A6)).1,(ns.getD k ((0,0,0,[]):A6)).2.1,(ns.getD k ((0,0,0,[]):A6)).2.2.1,(ns.getD k ((0,0,0,[]):A6)).2.2.2):=B6C (p:=(pi,ts,ns,os)) hF (by show k < ns.length;omega)
   have hnx:T4 ns (k+1)=T4 ns k+(D4 (ns.getD k ((0,0,0,[]):A6))).length:=A0Z (by omega)
   have hse:(D4 ((ns.getD k ((0,0,0,[]):A6)).1,(ns.getD k ((0,0,0,[]):A6)).2.1,(ns.getD k ((0,0,0,[]):A6)).2.2.1,(ns.getD k ((0,0,0,[]):A6)).2.2.2)).length=(D4 (ns.getD k ((0,0,0,[]):A6))).length:=rfl
   have hle:T4 ns (k+1)≤B7 ns:=B3T (by omega)
   have hpt:=B1a (ns:=ns) (c:=cs) (k:=k) (by omega)
   have hpl:((cs.drop (T4 ns k)).take (D4 (ns.getD k ((0,0,0,[]):A6))).length).length≤1099511627776:=by rw[List.length_take,List.length_drop];omega
   have hdl:(cs.drop (T4 ns k)).length=B7 ns - T4 ns k:=by rw[List.length_drop,hcs]
   have hdr:((cs.drop (T4 ns k)).take (B7 ns - T4 ns k)).drop (D4 (ns.getD k ((0,0,0,[]):A6))).length=cs.drop (T4 ns (k+1)):=by rw[List.take_of_length_le (by omega)];exact C2W (by omega)
   refine A2 ?_;simp only[go_sem];refine hK7 _ ?_;refine oS fun _ hK8=>?_;refine A1 ?_;refine oS fun _ hK9=>?_;refine oW R8 ?_;simp only[go_sem];repeat(with_reducible refine oA ?_)
   refine hK9 _ ?_;refine oS fun _ hK10=>?_;refine oW R8 ?_;simp only[go_sem];repeat(with_reducible first|refine oA ?_|refine And.intro (by first|exact hnc) ?_)
   refine hK10 _ ?_;refine oS fun _ hK11=>?_
   refine oR R8
     [[],[0],[],[],[2,3],[2,3,4],[2,3,4,5],[0,1,2,3,4,5,6],[0,1,2,3,4,5,6,7],[0,1,2,3,4,5,6,7,8]]
     [[500,501,502,503,504,505,506,507,508,509,510,511,512,513,514,515,516],[500,501,502,503,504,505,506,507,508,509,510,511,512,513,514,515,516],[],[],[],[],[],[],[],[]]
     [[],[],[],[],[],[500,501,502,503,504,505,506,507,508,509,510,511,512,513,514,515],[500,501,502,503,504,505,506,507,508,509,510,511,512,513,514,515,516],[],[],[]] (by kernel_rfl) (by kernel_rfl) (A9 (acc:=[]) ?_)
   simp (maxSteps:=2000000)only[List.nodup_cons,List.nodup_nil,List.not_mem_nil,not_false_eq_true,hdl,hse,go_sem];repeat(with_reducible first|refine oD ?_|refine And.intro (by first|exact hpl|omega) ?_)
   refine hK11 _ ?_;refine oW R8 ?_;simp only[hdl,hse,go_sem];repeat(with_reducible refine oA ?_)
   refine hK8 _ ?_;refine oW R8 ?_;simp only[go_sem];refine hL5 ⟨k+1,by omega⟩ _ (oK ?_) ?_
   ·
    simp (maxSteps:=2000000)only[go_sem];all_goals((repeat' refine And.intro ?_ ?_)<;>first|rfl|exact wk (by omega)|exact hpt|(congr 1;exact hpt)|exact hdr|(congr 1;exact hdr)|(congr 1;done))
   ·
    first|(simp only[];omega)|omega|(simp;omega)
  intro c0;have hke:(O6 ns cs).take k=O6 ns cs:=List.take_of_length_le (by omega)
  refine B6 ?_;simp only[go_sem];refine hK3 _ ?_;refine oS fun _ hK12=>?_;refine oW R8 ?_;simp only[go_sem];repeat(with_reducible refine oA ?_)
  refine hK12 _ ?_;refine A0 ?_;simp only[hres,go_sem];first|exact oG|(refine⟨oG,?_⟩;(repeat' refine And.intro ?_ ?_)<;>first|rfl|(rw[hke];done)|(congr 1;done))
def A74:E4:=fun f=>if f=85 then some (.g A0U) else B3e f
theorem I3:B4 Tryz.prog A74:=m8 B81 (B0 Tryz.func85 rfl (by decide)) R8
attribute [go_sem] A74 A0U
def A0n:Con:=⟨[.val ((.row 26 (.row 2 (.int .i64)))),.val (.int .i64)],[⟨(.row 26 (.row 2 (.int .i64))),true⟩],fun x=>J3 x.2.1 0 1000=true∧x.1.length≤1000∧∀j,j < x.1.length→(x.1.getD j []).length=Int.toNat x.2.1,fun x=>(List.range (Int.toNat x.2.1)).map (A6l x.1)⟩
theorem B5p:C9 Tryz.prog 90 A0n:=by
  refine A4 Tryz.func90 rfl ?_
  have hres:Tryz.f90.results.toList=[.tmp 4]:=rfl
  rintro⟨(cc:List (List Int)),(rw:Int),_⟩ hc hL
  simp only[A0n,go_sem] at hL
  simp only[A0n,St.init,St.initG,Tryz.ntmps90,go_sem] 
  obtain⟨hr,hcl,hco⟩:=(show J3 rw 0 1000=true∧cc.length≤1000∧∀j,j < cc.length→(cc.getD j []).length=(Int.toNat rw) from hc)
  obtain⟨hr1,hr2⟩:=C1.1 hr
  have hrn:(((Int.toNat rw):Nat):Int)=rw:=Int.toNat_of_nonneg hr1
  refine oS fun _ hK1=>?_;refine oW I3 ?_;simp only[go_sem];refine hK1 _ ?_;refine oS fun _ hK2=>?_;refine oW I3 ?_;simp only[go_sem];repeat(with_reducible refine oA ?_)
  refine hK2 _ ?_;refine oS fun _ hK3=>?_;refine oS fun _ hK4=>?_;refine oW I3 ?_;simp only[go_sem];refine hK4 _ ?_;refine A1 ?_;refine A7 (ι:={ i:Nat // i≤(Int.toNat rw) }) (fun k=>⟨[.c (.rd [] 26 (.row 2 (.int .i64)) (cc)),zz,zz,zz,zz,.c (.ow 9005),zz,zz,zz,zz,zz,zz,.c (.sc (.int .i64 (((Int.toNat rw):Nat)))),.c (.sc (.int .i64 (k.1))),zz,zz,zz,zz,zz,zz,zz,zz,zz,zz,zz,zz,zz,zz,zz,zz,zz,zz,zz,zz,zz,zz,zz,zz,zz,zz,zz,zz],[(9005,.tree 26 (.row 2 (.int .i64)) (A1u cc (Int.toNat rw) k.1) none)]⟩) (fun k=>(Int.toNat rw) - k.1) ⟨0,by simp⟩ ?_ ?_
  ·
   refine oK ?_;simp (maxSteps:=2000000)only[go_sem];all_goals((repeat' refine And.intro ?_ ?_)<;>first|rfl|(rw[A8Z];done)|(congr 1;rw[A8Z];done)|(congr 1;exact(A8Z _ _).symm)|exact(A8Z _ _).symm|(congr 1;done)|(simp;done))
  rintro⟨i,hi⟩ K5 hL5
  have hpl:(A1u cc (Int.toNat rw) i).length=(Int.toNat rw):=A7W hi
  refine oS fun _ hK6=>?_;refine oW I3 ?_;simp only[go_sem];refine hK6 _ ?_;refine oS fun _ hK7=>?_;refine oC rfl ?_ ?_
  ·
   intro c0;refine A2 ?_;simp only[go_sem];refine hK7 _ ?_;refine oS fun _ hK8=>?_;refine A1 ?_;refine oS fun _ hK9=>?_;refine oW I3 ?_;simp only[go_sem];refine hK9 _ ?_;refine oS fun _ hK10=>?_;refine oW I3 ?_;simp (maxSteps:=2000000)only[List.nodup_cons,List.nodup_nil,List.not_mem_nil,not_false_eq_true,hpl,go_sem];repeat(with_reducible refine oA ?_)
   refine hK10 _ ?_;refine oS fun _ hK11=>?_;refine oW I3 ?_;simp only[go_sem];refine hK11 _ ?_;refine A1 ?_;refine A7 (ι:={ j:Nat // j≤cc.length }) (fun k'=>⟨[.c (.rd [] 26 (.row 2 (.int .i64)) (cc)),zz,zz,zz,zz,.c (.ow 9005),.c (.sc (.int .i64 (i))),zz,zz,zz,zz,zz,.c (.sc (.int .i64 (((Int.toNat rw):Nat)))),.c (.sc (.int .i64 (i))),zz,zz,zz,zz,zz,zz,.c (.rd [] 26 (.row 2 (.int .i64)) (cc)),.c (.sc (.int .i64 (cc.length))),.c (.sc (.int .i64 (k'.1))),zz,zz,zz,zz,zz,zz,zz,zz,zz,zz,zz,zz,zz,zz,zz,zz,zz,zz,zz],[(9005,.tree 26 (.row 2 (.int .i64)) (A2D cc (Int.toNat rw) i k'.1) none)]⟩) (fun k'=>cc.length - k'.1) ⟨0,by simp⟩ ?_ ?_
   ·
    refine oK ?_;simp (maxSteps:=2000000)only[go_sem];all_goals((repeat' refine And.intro ?_ ?_)<;>first|rfl|exact B8h|(congr 1;exact B8h)|(congr 1;done))
   rintro⟨j,hj⟩ K12 hL12
   have hql:(A2D cc (Int.toNat rw) i j).length=(Int.toNat rw):=C0T (by omega)
   refine oS fun _ hK13=>?_;refine oW I3 ?_;simp only[go_sem];refine hK13 _ ?_;refine oS fun _ hK14=>?_;refine oC rfl ?_ ?_
   ·
    intro c1;have hqa:=C3D (cols:=cc) (rows:=(Int.toNat rw)) (i:=i) (j:=j) (by omega)
    have hcj:=hco j (by omega)
    have hnx:=B7b (cols:=cc) (rows:=(Int.toNat rw)) (i:=i) (j:=j) (by omega) (by omega)
    have hrl:(A6l (cc.take j) i).length≤1000:=by unfold A6l;rw[List.length_map,List.length_take];omega
    refine A2 ?_;simp only[go_sem];refine hK14 _ ?_;refine oS fun _ hK15=>?_;refine A1 ?_;refine oS fun _ hK16=>?_;refine oW I3 ?_;simp only[go_sem];repeat(with_reducible refine oA ?_)
    refine hK16 _ ?_
    refine oR I3
      [[],[],[],[],[2,3],[2,3,4],[],[],[6,7],[6,7,8],[6,7,8,9],[2,3,4,5,6,7,8,9,10],[0,1,2,3,4,5,6,7,8,9,10,11],[0,1,2,3,4,5,6,7,8,9,10,11,12]]
      [[676,692,1009005],[676,692,1009005],[676],[676],[676],[676],[],[],[],[],[],[],[],[]]
      [[],[],[],[],[],[],[],[],[],[],[676],[676,692,1009005],[],[]] (by kernel_rfl) (by kernel_rfl) (A9 (acc:=[]) ?_)
    simp (maxSteps:=2000000)only[List.nodup_cons,List.nodup_nil,List.not_mem_nil,not_false_eq_true,hql,hqa,hcj,go_sem];repeat(with_reducible first|refine oD ?_|refine And.intro (by first|omega) ?_)
    refine hK15 _ ?_;refine oW I3 ?_;simp only[go_sem];refine hL12 ⟨j+1,by omega⟩ _ (oK ?_) ?_
    ·
     simp (maxSteps:=2000000)only[go_sem];all_goals((repeat' refine And.intro ?_ ?_)<;>first|rfl|exact wk (by omega)|exact hnx|(congr 1;exact hnx)|(congr 1;done))
    ·
     first|(simp only[];omega)|omega|(simp;omega)
   intro c1;have hqe:=C0J (cols:=cc) (rows:=(Int.toNat rw)) (i:=i) (j:=j) (by omega) (by omega)
   refine B6 ?_;simp only[go_sem];refine hK8 _ ?_;refine oW I3 ?_;simp only[go_sem];refine hL5 ⟨i+1,by omega⟩ _ (oK ?_) ?_
   ·
    simp (maxSteps:=2000000)only[go_sem];all_goals((repeat' refine And.intro ?_ ?_)<;>first|rfl|exact wk (by omega)|exact hqe|(congr 1;exact hqe)|(congr 1;done))
   ·
    first|(simp only[];omega)|omega|(simp;omega)
  intro c0;have hie:i=(Int.toNat rw):=by omega
  refine B6 ?_;simp only[go_sem];refine hK3 _ ?_;refine oS fun _ hK17=>?_;refine oW I3 ?_;simp only[go_sem];refine hK17 _ ?_;refine A0 ?_;simp only[hres,go_sem];first|exact oF|(refine⟨?_,oF⟩;rw[hie,C0k])
def A5I:E4:=fun f=>if f=90 then some (.p A0n) else A74 f
theorem B12:B4 Tryz.prog A5I:=E3 B5p (B0 Tryz.func90 rfl (by decide)) I3
attribute [go_sem] A5I A0n
end Go.Proofs.YtgaogcnfijbahaaGreat
